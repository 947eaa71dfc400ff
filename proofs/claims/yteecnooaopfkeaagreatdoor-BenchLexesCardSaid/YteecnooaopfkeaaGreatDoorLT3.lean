/- The tie of the row of BenchLexes; no condition. -/
import Derived.Test.YteecnooaopfkeaaGreatDoorLT2
import Derived.Test.YteecnooaopfkeaaGreatDoorLE1
import Derived.Test.YteecnooaopfkeaaGreatDoorCards
set_option linter.unusedSimpArgs false
set_option linter.unusedVariables false
namespace Go.Proofs.YteecnooaopfkeaaGreatDoor.TT
open Go
set_option maxRecDepth 100000
theorem mY:Rows.benchLexesRow.laidByTextAt .later Tryz.pinned [.sentinel,.sentinel,.data,.data,.data,.pinned,.data,.data,.listed] true:=
 OpenClaim.laidByTextAt_pinned rfl rfl aiB rfl rfl rfl rfl (fun y hy _e=>by
  simp only [Rows.benchLexesRow,List.zip_cons_cons,List.zip_nil_right,List.mem_cons,List.mem_nil_iff,or_false] at hy
  rcases hy with rfl | rfl | rfl | rfl | rfl | rfl | rfl | rfl | rfl
  ·cases _e
  ·cases _e
  ·cases _e
  ·cases _e
  ·cases _e
  ·exact⟨Ib,by kernel_rfl⟩
  ·cases _e
  ·cases _e
  ·cases _e) acH
theorem acI:Tryz.prog.mainIs=some (true, "f707728d3372d309cb380a4dba4f6299f9b4727bb9effc7e3a68847ea55f3a2a".toList):=by kernel_rfl
theorem Rj:true=Tryz.prog.looks []:=by kernel_rfl
theorem acJ:Rows.benchLexesRow.wfByText (OpenSpec.ofChange Rows.benchLexesSpec)=true:=by kernel_rfl
theorem Rk:(Tryz.f3.params.toList.all fun u=>!Tryz.prog.wantsStandIn u)=true:=by kernel_rfl
theorem acK:false=Rows.benchLexesRow.goesBy Tryz.prog:=(Bh aiy _).symm
theorem acL (h:Rows.BenchLexesSaid):Rows.BenchLexesCardSaid:=
 Claim7.holds_tied_plain_at (p:=Tryz.pinned) .later [] [.sentinel,.sentinel,.data,.data,.data,.pinned,.data,.data,.listed] true (true, "f707728d3372d309cb380a4dba4f6299f9b4727bb9effc7e3a68847ea55f3a2a") true
  h (fun _ h=>by cases h) acJ (fun _ h=>by cases h) mY rfl ⟨rfl,rfl⟩ acI rfl
  (fun f fn hf hfn=>by
   obtain rfl:f=3:=Option.some.inj ((show Tryz.prog.funcNamed "wringing/wringinglaw09.BenchLexes"=some 3 from KJ).symm.trans hf) |>.symm
   obtain rfl:fn=Tryz.f3:=(Option.some.inj (Tryz.func3.symm.trans hfn)).symm
   exact⟨Rj,fun j t ht=>by
    have hs:Tryz.prog.wantsStandIn t=false:=by simpa using List.all_eq_true.1 Rk t (Array.mem_toList_iff.2 (Array.mem_of_getElem? ht))
    exact hs⟩)
  acK
end Go.Proofs.YteecnooaopfkeaaGreatDoor.TT
