/- The tie of the row of BenchBack; no condition. -/
import Derived.Test.YteecnooaopfkeaaGreatDoorPT2
import Derived.Test.YteecnooaopfkeaaGreatDoorPE1
import Derived.Test.YteecnooaopfkeaaGreatDoorCards
set_option linter.all false
namespace Go.Proofs.YteecnooaopfkeaaGreatDoor.TT
open Go
set_option maxRecDepth 100000
theorem BH:Rows.benchBackUptoRow.laidByTextAt .later Tryz.pinned [.sentinel,.sentinel,.data,.data,.data,.pinned,.data,.data,.listed] true:=
 OpenClaim.laidByTextAt_pinned rfl rfl aql rfl rfl rfl rfl (λy a _e=>by
  simp only [Rows.benchBackUptoRow,List.zip_cons_cons,List.zip_nil_right,List.mem_cons,List.mem_nil_iff,or_false] at a;rcases a with rfl | rfl | rfl | rfl | rfl | rfl | rfl | rfl | rfl;cases _e;cases _e;cases _e;cases _e;cases _e;exact⟨WO,by kernel_rfl⟩;cases _e;cases _e;cases _e) akR
theorem akS:Tryz.prog.mainIs=some (true, "f707728d3372d309cb380a4dba4f6299f9b4727bb9effc7e3a68847ea55f3a2a".toList):=by kernel_rfl
theorem agx:true=Tryz.prog.looks []:=by kernel_rfl
theorem akT:Rows.benchBackUptoRow.wfByText (Rows.OpenSpec.upto Rows.benchBackSpec)=true:=by kernel_rfl
theorem agy:(Tryz.f6.params.toList.all λu=>!Tryz.prog.wantsStandIn u)=true:=by kernel_rfl
theorem akU:false=Rows.benchBackUptoRow.goesBy Tryz.prog:=(QN aqh _).symm
theorem akV (h:Rows.BenchBackUptoSaid):Rows.BenchBackUptoCardSaid:=
 Claim7.holds_tied_plain_at (p:=Tryz.pinned) .later [] [.sentinel,.sentinel,.data,.data,.data,.pinned,.data,.data,.listed] true (true, "f707728d3372d309cb380a4dba4f6299f9b4727bb9effc7e3a68847ea55f3a2a") true
  h (λ_ h=>by cases h) akT (λ_ h=>by cases h) BH rfl ⟨rfl,rfl⟩ akS rfl
  (λf b c a=>by
   obtain rfl:f=6:=Option.some.inj ((show Tryz.prog.funcNamed "wringing/wringinglaw09.BenchBack"=some 6 from aa9).symm.trans c) |>.symm;obtain rfl:b=Tryz.f6:=(Option.some.inj (Tryz.func6.symm.trans a)).symm;exact⟨agx,λj t e=>by
    have d:Tryz.prog.wantsStandIn t=false:=(by simpa using List.all_eq_true.1 agy t (Array.mem_toList_iff.2 (Array.mem_of_getElem? e)));exact d⟩)
  akU
end Go.Proofs.YteecnooaopfkeaaGreatDoor.TT
