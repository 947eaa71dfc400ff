/- The program is laid out well: its types; no condition. -/
import Derived.Test.YtcnimimffiiimaaGreatDoorRows
import Derived.ProofKit
import GoSem.ClaimDataLaid
set_option linter.all false
namespace Go.Proofs.YtcnimimffiiimaaGreatDoor.TT
open Go
set_option maxRecDepth 100000
theorem lo0:Tryz.prog.types.size=663:=by kernel_rfl
theorem lt1:(List.range' 0 175).all (rowFine Tryz.prog)=true:=by kernel_rfl
theorem lt2:(List.range' 175 175).all (rowFine Tryz.prog)=true:=by kernel_rfl
theorem lt3:(List.range' 350 175).all (rowFine Tryz.prog)=true:=by kernel_rfl
theorem lt4:(List.range' 525 138).all (rowFine Tryz.prog)=true:=by kernel_rfl
theorem loG:Tryz.prog.globals.all (λg=>decide (g.type<Tryz.prog.types.size))=true:=by kernel_rfl
theorem loT:(List.range Tryz.prog.types.size).all (rowFine Tryz.prog)=true:=by rw [lo0];refine List.all_eq_true.2 λt a=>?_;have h:=List.mem_range.1 a;by_cases h1:t<175;exact List.all_eq_true.1 lt1 t (List.mem_range'_1.2 ⟨by omega,by omega⟩);by_cases h2:t<350;exact List.all_eq_true.1 lt2 t (List.mem_range'_1.2 ⟨by omega,by omega⟩);by_cases h3:t<525;exact List.all_eq_true.1 lt3 t (List.mem_range'_1.2 ⟨by omega,by omega⟩);exact List.all_eq_true.1 lt4 t (List.mem_range'_1.2 ⟨by omega,by omega⟩)
end Go.Proofs.YtcnimimffiiimaaGreatDoor.TT
