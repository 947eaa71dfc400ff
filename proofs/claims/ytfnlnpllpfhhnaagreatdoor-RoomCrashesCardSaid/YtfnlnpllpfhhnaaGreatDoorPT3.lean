/- The tie of the row of RoomCrashes; no condition. -/
import Derived.Test.YtfnlnpllpfhhnaaGreatDoorPT2
import Derived.Test.YtfnlnpllpfhhnaaGreatDoorPE1
import Derived.Test.YtfnlnpllpfhhnaaGreatDoorCards
set_option linter.all false
namespace Go.Proofs.YtfnlnpllpfhhnaaGreatDoor.TT
open Go
set_option maxRecDepth 100000
theorem zS:Rows.roomCrashesRow.laidByTextAt .later Tryz.pinned [.data,.data,.data,.sentinel,.sentinel,.pinned,.data,.data,.listed] true:=
 OpenClaim.laidByTextAt_pinned rfl rfl aEB rfl rfl rfl rfl (λy a _e=>by
  simp only [Rows.roomCrashesRow,List.zip_cons_cons,List.zip_nil_right,List.mem_cons,List.mem_nil_iff,or_false] at a;rcases a with rfl | rfl | rfl | rfl | rfl | rfl | rfl | rfl | rfl;cases _e;cases _e;cases _e;cases _e;cases _e;exact⟨Xu,by kernel_rfl⟩;cases _e;cases _e;cases _e) ayo
theorem ayp:Tryz.prog.mainIs=some (true, "b11c46b45828f6678e86c8f999832f945a1c062c9f875deaf66930a7dd8f79f8".toList):=by kernel_rfl
theorem alT:true=Tryz.prog.looks []:=by kernel_rfl
theorem ayq:Rows.roomCrashesRow.wfByText (OpenSpec.ofChange Rows.roomCrashesSpec)=true:=by kernel_rfl
theorem alU:(Tryz.f6.params.toList.all λu=>!Tryz.prog.wantsStandIn u)=true:=by kernel_rfl
theorem ayr:false=Rows.roomCrashesRow.goesBy Tryz.prog:=(Rb aEx _).symm
theorem ays (h:Rows.RoomCrashesSaid):Rows.RoomCrashesCardSaid:=
 Claim7.holds_tied_plain_at (p:=Tryz.pinned) .later [] [.data,.data,.data,.sentinel,.sentinel,.pinned,.data,.data,.listed] true (true, "b11c46b45828f6678e86c8f999832f945a1c062c9f875deaf66930a7dd8f79f8") true
  h (λ_ h=>by cases h) ayq (λ_ h=>by cases h) zS rfl ⟨rfl,rfl⟩ ayp rfl
  (λf b c a=>by
   obtain rfl:f=6:=Option.some.inj ((show Tryz.prog.funcNamed "wringing/wringinglaw08.RoomCrashes"=some 6 from acU).symm.trans c) |>.symm;obtain rfl:b=Tryz.f6:=(Option.some.inj (Tryz.func6.symm.trans a)).symm;exact⟨alT,λj t e=>by
    have d:Tryz.prog.wantsStandIn t=false:=(by simpa using List.all_eq_true.1 alU t (Array.mem_toList_iff.2 (Array.mem_of_getElem? e)));exact d⟩)
  ayr
end Go.Proofs.YtfnlnpllpfhhnaaGreatDoor.TT
