/- The tie of the row of BenchParses; no condition. -/
import Derived.Test.YteecnooaopfkeaaGreatDoorPT2
import Derived.Test.YteecnooaopfkeaaGreatDoorPE1
import Derived.Test.YteecnooaopfkeaaGreatDoorCards
set_option linter.all false
namespace Go.Proofs.YteecnooaopfkeaaGreatDoor.TT
open Go
set_option maxRecDepth 100000
theorem wG:Rows.benchParsesRow.laidByTextAt .later Tryz.pinned [.sentinel,.sentinel,.data,.data,.data,.pinned,.data,.data,.listed] true:=
 OpenClaim.laidByTextAt_pinned rfl rfl an8 rfl rfl rfl rfl (λy hy _e=>by
  simp only [Rows.benchParsesRow,List.zip_cons_cons,List.zip_nil_right,List.mem_cons,List.mem_nil_iff,or_false] at hy;rcases hy with rfl | rfl | rfl | rfl | rfl | rfl | rfl | rfl | rfl;cases _e;cases _e;cases _e;cases _e;cases _e;exact⟨TF,by kernel_rfl⟩;cases _e;cases _e;cases _e) ah7
theorem ah8:Tryz.prog.mainIs=some (true, "f707728d3372d309cb380a4dba4f6299f9b4727bb9effc7e3a68847ea55f3a2a".toList):=by kernel_rfl
theorem acW:true=Tryz.prog.looks []:=by kernel_rfl
theorem ah9:Rows.benchParsesRow.wfByText (OpenSpec.ofChange Rows.benchParsesSpec)=true:=by kernel_rfl
theorem acX:(Tryz.f4.params.toList.all λu=>!Tryz.prog.wantsStandIn u)=true:=by kernel_rfl
theorem aha:false=Rows.benchParsesRow.goesBy Tryz.prog:=(NS an4 _).symm
theorem ahb (h:Rows.BenchParsesSaid):Rows.BenchParsesCardSaid:=
 Claim7.holds_tied_plain_at (p:=Tryz.pinned) .later [] [.sentinel,.sentinel,.data,.data,.data,.pinned,.data,.data,.listed] true (true, "f707728d3372d309cb380a4dba4f6299f9b4727bb9effc7e3a68847ea55f3a2a") true
  h (λ_ h=>by cases h) ah9 (λ_ h=>by cases h) wG rfl ⟨rfl,rfl⟩ ah8 rfl
  (λf fn hf hfn=>by
   obtain rfl:f=4:=Option.some.inj ((show Tryz.prog.funcNamed "wringing/wringinglaw09.BenchParses"=some 4 from WC).symm.trans hf) |>.symm;obtain rfl:fn=Tryz.f4:=(Option.some.inj (Tryz.func4.symm.trans hfn)).symm;exact⟨acW,λj t ht=>by
    have hs:Tryz.prog.wantsStandIn t=false:=(by simpa using List.all_eq_true.1 acX t (Array.mem_toList_iff.2 (Array.mem_of_getElem? ht)));exact hs⟩)
  aha
end Go.Proofs.YteecnooaopfkeaaGreatDoor.TT
