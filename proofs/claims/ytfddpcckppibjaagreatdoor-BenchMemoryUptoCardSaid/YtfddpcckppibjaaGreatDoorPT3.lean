/- The tie of the row of BenchMemory; no condition. -/
import Derived.Test.YtfddpcckppibjaaGreatDoorPT2
import Derived.Test.YtfddpcckppibjaaGreatDoorPE1
import Derived.Test.YtfddpcckppibjaaGreatDoorCards
set_option linter.all false
namespace Go.Proofs.YtfddpcckppibjaaGreatDoor.TT
open Go
set_option maxRecDepth 100000
theorem wI:Rows.benchMemoryUptoRow.laidByTextAt .later Tryz.pinned [.data,.data,.data,.sentinel,.sentinel,.pinned,.data,.data,.listed] true:=
 OpenClaim.laidByTextAt_pinned rfl rfl apz rfl rfl rfl rfl (λy a _e=>by
  simp only [Rows.benchMemoryUptoRow,List.zip_cons_cons,List.zip_nil_right,List.mem_cons,List.mem_nil_iff,or_false] at a;rcases a with rfl | rfl | rfl | rfl | rfl | rfl | rfl | rfl | rfl;cases _e;cases _e;cases _e;cases _e;cases _e;exact⟨Ux,by kernel_rfl⟩;cases _e;cases _e;cases _e) ak0
theorem ak1:Tryz.prog.mainIs=some (true, "fa7968eb1ba0ce5dc20bbccee07c6cf8e8ef120d86ca6c6f314a02d8a1f89521".toList):=by kernel_rfl
theorem afp:true=Tryz.prog.looks []:=by kernel_rfl
theorem ak2:Rows.benchMemoryUptoRow.wfByText (Rows.OpenSpec.upto Rows.benchMemorySpec)=true:=by kernel_rfl
theorem afq:(Tryz.f5.params.toList.all λu=>!Tryz.prog.wantsStandIn u)=true:=by kernel_rfl
theorem ak3:false=Rows.benchMemoryUptoRow.goesBy Tryz.prog:=(Oi apv _).symm
theorem ak4 (h:Rows.BenchMemoryUptoSaid):Rows.BenchMemoryUptoCardSaid:=
 Claim7.holds_tied_plain_at (p:=Tryz.pinned) .later [] [.data,.data,.data,.sentinel,.sentinel,.pinned,.data,.data,.listed] true (true, "fa7968eb1ba0ce5dc20bbccee07c6cf8e8ef120d86ca6c6f314a02d8a1f89521") true
  h (λ_ h=>by cases h) ak2 (λ_ h=>by cases h) wI rfl ⟨rfl,rfl⟩ ak1 rfl
  (λf b c a=>by
   obtain rfl:f=5:=Option.some.inj ((show Tryz.prog.funcNamed "wringing/wringinglaw09.BenchMemory"=some 5 from Yt).symm.trans c) |>.symm;obtain rfl:b=Tryz.f5:=(Option.some.inj (Tryz.func5.symm.trans a)).symm;exact⟨afp,λj t e=>by
    have d:Tryz.prog.wantsStandIn t=false:=(by simpa using List.all_eq_true.1 afq t (Array.mem_toList_iff.2 (Array.mem_of_getElem? e)));exact d⟩)
  ak3
end Go.Proofs.YtfddpcckppibjaaGreatDoor.TT
