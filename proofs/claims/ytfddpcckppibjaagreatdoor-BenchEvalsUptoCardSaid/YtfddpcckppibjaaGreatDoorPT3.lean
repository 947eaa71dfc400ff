/- The tie of the row of BenchEvals; no condition. -/
import Derived.Test.YtfddpcckppibjaaGreatDoorPT2
import Derived.Test.YtfddpcckppibjaaGreatDoorPE1
import Derived.Test.YtfddpcckppibjaaGreatDoorCards
set_option linter.all false
namespace Go.Proofs.YtfddpcckppibjaaGreatDoor.TT
open Go
set_option maxRecDepth 100000
theorem wO:Rows.benchEvalsUptoRow.laidByTextAt .later Tryz.pinned [.sentinel,.sentinel,.data,.data,.data,.pinned,.data,.data,.listed] true:=
 OpenClaim.laidByTextAt_pinned rfl rfl ap7 rfl rfl rfl rfl (λy a _e=>by
  simp only [Rows.benchEvalsUptoRow,List.zip_cons_cons,List.zip_nil_right,List.mem_cons,List.mem_nil_iff,or_false] at a;rcases a with rfl | rfl | rfl | rfl | rfl | rfl | rfl | rfl | rfl;cases _e;cases _e;cases _e;cases _e;cases _e;exact⟨Sl,by kernel_rfl⟩;cases _e;cases _e;cases _e) aiw
theorem aix:Tryz.prog.mainIs=some (true, "fa7968eb1ba0ce5dc20bbccee07c6cf8e8ef120d86ca6c6f314a02d8a1f89521".toList):=by kernel_rfl
theorem adt:true=Tryz.prog.looks []:=by kernel_rfl
theorem aiy:Rows.benchEvalsUptoRow.wfByText (Rows.OpenSpec.upto Rows.benchEvalsSpec)=true:=by kernel_rfl
theorem adu:(Tryz.f4.params.toList.all λu=>!Tryz.prog.wantsStandIn u)=true:=by kernel_rfl
theorem aiz:false=Rows.benchEvalsUptoRow.goesBy Tryz.prog:=(Mr ap3 _).symm
theorem aiA (h:Rows.BenchEvalsUptoSaid):Rows.BenchEvalsUptoCardSaid:=
 Claim7.holds_tied_plain_at (p:=Tryz.pinned) .later [] [.sentinel,.sentinel,.data,.data,.data,.pinned,.data,.data,.listed] true (true, "fa7968eb1ba0ce5dc20bbccee07c6cf8e8ef120d86ca6c6f314a02d8a1f89521") true
  h (λ_ h=>by cases h) aiy (λ_ h=>by cases h) wO rfl ⟨rfl,rfl⟩ aix rfl
  (λf b c a=>by
   obtain rfl:f=4:=Option.some.inj ((show Tryz.prog.funcNamed "wringing/wringinglaw09.BenchEvals"=some 4 from Wu).symm.trans c) |>.symm;obtain rfl:b=Tryz.f4:=(Option.some.inj (Tryz.func4.symm.trans a)).symm;exact⟨adt,λj t e=>by
    have d:Tryz.prog.wantsStandIn t=false:=(by simpa using List.all_eq_true.1 adu t (Array.mem_toList_iff.2 (Array.mem_of_getElem? e)));exact d⟩)
  aiz
end Go.Proofs.YtfddpcckppibjaaGreatDoor.TT
