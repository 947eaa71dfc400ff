/- The tie of the row of BenchPrints; no condition. -/
import Derived.Test.YteecnooaopfkeaaGreatDoorPT2
import Derived.Test.YteecnooaopfkeaaGreatDoorPE1
import Derived.Test.YteecnooaopfkeaaGreatDoorCards
set_option linter.all false
namespace Go.Proofs.YteecnooaopfkeaaGreatDoor.TT
open Go
set_option maxRecDepth 100000
theorem wG:Rows.benchPrintsUptoRow.laidByTextAt .later Tryz.pinned [.sentinel,.sentinel,.data,.data,.data,.pinned,.data,.data,.listed] true:=
 OpenClaim.laidByTextAt_pinned rfl rfl apq rfl rfl rfl rfl (λy a _e=>by
  simp only [Rows.benchPrintsUptoRow,List.zip_cons_cons,List.zip_nil_right,List.mem_cons,List.mem_nil_iff,or_false] at a;rcases a with rfl | rfl | rfl | rfl | rfl | rfl | rfl | rfl | rfl;cases _e;cases _e;cases _e;cases _e;cases _e;exact⟨Uc,by kernel_rfl⟩;cases _e;cases _e;cases _e) ajb
theorem ajc:Tryz.prog.mainIs=some (true, "f707728d3372d309cb380a4dba4f6299f9b4727bb9effc7e3a68847ea55f3a2a".toList):=by kernel_rfl
theorem aey:true=Tryz.prog.looks []:=by kernel_rfl
theorem ajd:Rows.benchPrintsUptoRow.wfByText (Rows.OpenSpec.upto Rows.benchPrintsSpec)=true:=by kernel_rfl
theorem aez:(Tryz.f5.params.toList.all λu=>!Tryz.prog.wantsStandIn u)=true:=by kernel_rfl
theorem aje:false=Rows.benchPrintsUptoRow.goesBy Tryz.prog:=(Om apl _).symm
theorem ajf (h:Rows.BenchPrintsUptoSaid):Rows.BenchPrintsUptoCardSaid:=
 Claim7.holds_tied_plain_at (p:=Tryz.pinned) .later [] [.sentinel,.sentinel,.data,.data,.data,.pinned,.data,.data,.listed] true (true, "f707728d3372d309cb380a4dba4f6299f9b4727bb9effc7e3a68847ea55f3a2a") true
  h (λ_ h=>by cases h) ajd (λ_ h=>by cases h) wG rfl ⟨rfl,rfl⟩ ajc rfl
  (λf b c a=>by
   obtain rfl:f=5:=Option.some.inj ((show Tryz.prog.funcNamed "wringing/wringinglaw09.BenchPrints"=some 5 from XB).symm.trans c) |>.symm;obtain rfl:b=Tryz.f5:=(Option.some.inj (Tryz.func5.symm.trans a)).symm;exact⟨aey,λj t e=>by
    have d:Tryz.prog.wantsStandIn t=false:=(by simpa using List.all_eq_true.1 aez t (Array.mem_toList_iff.2 (Array.mem_of_getElem? e)));exact d⟩)
  aje
end Go.Proofs.YteecnooaopfkeaaGreatDoor.TT
