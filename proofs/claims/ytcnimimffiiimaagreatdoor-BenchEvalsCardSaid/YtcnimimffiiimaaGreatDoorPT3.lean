/- The tie of the row of BenchEvals; no condition. -/
import Derived.Test.YtcnimimffiiimaaGreatDoorPT2
import Derived.Test.YtcnimimffiiimaaGreatDoorPE1
import Derived.Test.YtcnimimffiiimaaGreatDoorCards
set_option linter.all false
namespace Go.Proofs.YtcnimimffiiimaaGreatDoor.TT
open Go
set_option maxRecDepth 100000
theorem wO:Rows.benchEvalsRow.laidByTextAt .later Tryz.pinned [.sentinel,.sentinel,.data,.data,.data,.pinned,.data,.data,.listed] true:=
 OpenClaim.laidByTextAt_pinned rfl rfl ap6 rfl rfl rfl rfl (λy a _e=>by
  simp only [Rows.benchEvalsRow,List.zip_cons_cons,List.zip_nil_right,List.mem_cons,List.mem_nil_iff,or_false] at a;rcases a with rfl | rfl | rfl | rfl | rfl | rfl | rfl | rfl | rfl;cases _e;cases _e;cases _e;cases _e;cases _e;exact⟨Sk,by kernel_rfl⟩;cases _e;cases _e;cases _e) aiv
theorem aiw:Tryz.prog.mainIs=some (true, "fa7968eb1ba0ce5dc20bbccee07c6cf8e8ef120d86ca6c6f314a02d8a1f89521".toList):=by kernel_rfl
theorem ads:true=Tryz.prog.looks []:=by kernel_rfl
theorem aix:Rows.benchEvalsRow.wfByText (OpenSpec.ofChange Rows.benchEvalsSpec)=true:=by kernel_rfl
theorem adt:(Tryz.f4.params.toList.all λu=>!Tryz.prog.wantsStandIn u)=true:=by kernel_rfl
theorem aiy:false=Rows.benchEvalsRow.goesBy Tryz.prog:=(Mr ap2 _).symm
theorem aiz (h:Rows.BenchEvalsSaid):Rows.BenchEvalsCardSaid:=
 Claim7.holds_tied_plain_at (p:=Tryz.pinned) .later [] [.sentinel,.sentinel,.data,.data,.data,.pinned,.data,.data,.listed] true (true, "fa7968eb1ba0ce5dc20bbccee07c6cf8e8ef120d86ca6c6f314a02d8a1f89521") true
  h (λ_ h=>by cases h) aix (λ_ h=>by cases h) wO rfl ⟨rfl,rfl⟩ aiw rfl
  (λf b c a=>by
   obtain rfl:f=4:=Option.some.inj ((show Tryz.prog.funcNamed "wringing/wringinglaw09.BenchEvals"=some 4 from Wt).symm.trans c) |>.symm;obtain rfl:b=Tryz.f4:=(Option.some.inj (Tryz.func4.symm.trans a)).symm;exact⟨ads,λj t e=>by
    have d:Tryz.prog.wantsStandIn t=false:=(by simpa using List.all_eq_true.1 adt t (Array.mem_toList_iff.2 (Array.mem_of_getElem? e)));exact d⟩)
  aiy
end Go.Proofs.YtcnimimffiiimaaGreatDoor.TT
