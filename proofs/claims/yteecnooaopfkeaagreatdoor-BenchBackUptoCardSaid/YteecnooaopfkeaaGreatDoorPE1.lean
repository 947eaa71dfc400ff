/- The row of BenchBack from its lifted form; no condition. -/
import Derived.Test.YteecnooaopfkeaaGreatDoorPE3
import Derived.JoinedCond
set_option linter.all false
namespace Go.Proofs.YteecnooaopfkeaaGreatDoor.TT
open Go
set_option maxRecDepth 100000
theorem aa9:Tryz.prog.funcNamed "wringing/wringinglaw09.BenchBack"=some 6:=by kernel_rfl
theorem akG:Tryz.f6.isInstance Tryz.prog Rows.benchBackUptoRow.origin Rows.benchBackUptoRow.targs:=of_decide_eq_true (by kernel_rfl)
theorem akH:Tryz.f6.isWrapper Tryz.prog Rows.benchBackUptoRow.wrapper Rows.benchBackUptoRow.mainSum:=by unfold Func.isWrapper;first | (rw [if_pos (by decide +kernel)];kernel_rfl) | (rw [if_neg (by decide +kernel)];exact⟨rfl,rfl⟩)
theorem agv (h:∀os:Os,os.Started->∀(H:Type)(enc:TypeId×Value->H),(∀a b,enc a=enc b->a=b)->∀F:Stop.Interp,
   ReturnsInHanded Rows.benchBackUptoRow.assume Tryz.pinned.checked os 6 .any (Rows.benchBackUptoRow.pre enc Tryz.pinned.checked.prog Tryz.f6 (Rows.OpenSpec.upto Rows.benchBackSpec)) (((Rows.OpenSpec.upto Rows.benchBackSpec).at F).post enc Tryz.pinned.checked.prog Tryz.f6 Rows.benchBackUptoRow.apart Rows.benchBackUptoRow.fresh Rows.benchBackUptoRow.handsOn Rows.benchBackUptoRow.again)):Rows.BenchBackUptoSaid:=
 OpenClaim.holds_of_cond (p:=Tryz.pinned) (s:=Rows.OpenSpec.upto Rows.benchBackSpec) 6 Tryz.f6 rfl rfl rfl rfl rfl rfl rfl ⟨rfl,rfl,rfl,rfl,rfl⟩ rfl rfl rfl rfl rfl aa9 Tryz.func6 acT akG akH h
end Go.Proofs.YteecnooaopfkeaaGreatDoor.TT
