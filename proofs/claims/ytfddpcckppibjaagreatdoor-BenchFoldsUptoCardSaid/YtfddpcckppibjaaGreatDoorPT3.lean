/- The tie of the row of BenchFolds; no condition. -/
import Derived.Test.YtfddpcckppibjaaGreatDoorPT2
import Derived.Test.YtfddpcckppibjaaGreatDoorPE1
import Derived.Test.YtfddpcckppibjaaGreatDoorCards
set_option linter.all false
namespace Go.Proofs.YtfddpcckppibjaaGreatDoor.TT
open Go
set_option maxRecDepth 100000
theorem yM:Rows.benchFoldsUptoRow.laidByTextAt .later Tryz.pinned [.sentinel,.sentinel,.data,.data,.data,.pinned,.data,.data,.listed] true:=
 OpenClaim.laidByTextAt_pinned rfl rfl arG rfl rfl rfl rfl (λy a _e=>by
  simp only [Rows.benchFoldsUptoRow,List.zip_cons_cons,List.zip_nil_right,List.mem_cons,List.mem_nil_iff,or_false] at a;rcases a with rfl | rfl | rfl | rfl | rfl | rfl | rfl | rfl | rfl;cases _e;cases _e;cases _e;cases _e;cases _e;exact⟨Vs,by kernel_rfl⟩;cases _e;cases _e;cases _e) akU
theorem akV:Tryz.prog.mainIs=some (true, "fa7968eb1ba0ce5dc20bbccee07c6cf8e8ef120d86ca6c6f314a02d8a1f89521".toList):=by kernel_rfl
theorem aga:true=Tryz.prog.looks []:=by kernel_rfl
theorem akW:Rows.benchFoldsUptoRow.wfByText (Rows.OpenSpec.upto Rows.benchFoldsSpec)=true:=by kernel_rfl
theorem agb:(Tryz.f3.params.toList.all λu=>!Tryz.prog.wantsStandIn u)=true:=by kernel_rfl
theorem akX:false=Rows.benchFoldsUptoRow.goesBy Tryz.prog:=(OY arB _).symm
theorem akY (h:Rows.BenchFoldsUptoSaid):Rows.BenchFoldsUptoCardSaid:=
 Claim7.holds_tied_plain_at (p:=Tryz.pinned) .later [] [.sentinel,.sentinel,.data,.data,.data,.pinned,.data,.data,.listed] true (true, "fa7968eb1ba0ce5dc20bbccee07c6cf8e8ef120d86ca6c6f314a02d8a1f89521") true
  h (λ_ h=>by cases h) akW (λ_ h=>by cases h) yM rfl ⟨rfl,rfl⟩ akV rfl
  (λf b c a=>by
   obtain rfl:f=3:=Option.some.inj ((show Tryz.prog.funcNamed "wringing/wringinglaw09.BenchFolds"=some 3 from YU).symm.trans c) |>.symm;obtain rfl:b=Tryz.f3:=(Option.some.inj (Tryz.func3.symm.trans a)).symm;exact⟨aga,λj t e=>by
    have d:Tryz.prog.wantsStandIn t=false:=(by simpa using List.all_eq_true.1 agb t (Array.mem_toList_iff.2 (Array.mem_of_getElem? e)));exact d⟩)
  akX
end Go.Proofs.YtfddpcckppibjaaGreatDoor.TT
