/- The tie of the row of RoomOpens; no condition. -/
import Derived.Test.YtfnlnpllpfhhnaaGreatDoorQT2
import Derived.Test.YtfnlnpllpfhhnaaGreatDoorQE1
import Derived.Test.YtfnlnpllpfhhnaaGreatDoorCards
set_option linter.all false
namespace Go.Proofs.YtfnlnpllpfhhnaaGreatDoor.TT
open Go
set_option maxRecDepth 100000
theorem EH:Rows.roomOpensRow.laidByTextAt .later Tryz.pinned [.data,.data,.data,.sentinel,.sentinel,.pinned,.data,.data,.listed] true:=
 OpenClaim.laidByTextAt_pinned rfl rfl aDR rfl rfl rfl rfl (λy a _e=>by
  simp only [Rows.roomOpensRow,List.zip_cons_cons,List.zip_nil_right,List.mem_cons,List.mem_nil_iff,or_false] at a;rcases a with rfl | rfl | rfl | rfl | rfl | rfl | rfl | rfl | rfl;cases _e;cases _e;cases _e;cases _e;cases _e;exact⟨YE,by kernel_rfl⟩;cases _e;cases _e;cases _e) ayz
theorem ayA:Tryz.prog.mainIs=some (true, "b11c46b45828f6678e86c8f999832f945a1c062c9f875deaf66930a7dd8f79f8".toList):=by kernel_rfl
theorem alI:true=Tryz.prog.looks []:=by kernel_rfl
theorem ayB:Rows.roomOpensRow.wfByText (OpenSpec.ofChange Rows.roomOpensSpec)=true:=by kernel_rfl
theorem alJ:(Tryz.f5.params.toList.all λu=>!Tryz.prog.wantsStandIn u)=true:=by kernel_rfl
theorem ayC:false=Rows.roomOpensRow.goesBy Tryz.prog:=(SG aDL _).symm
theorem ayD (h:Rows.RoomOpensSaid):Rows.RoomOpensCardSaid:=
 Claim7.holds_tied_plain_at (p:=Tryz.pinned) .later [] [.data,.data,.data,.sentinel,.sentinel,.pinned,.data,.data,.listed] true (true, "b11c46b45828f6678e86c8f999832f945a1c062c9f875deaf66930a7dd8f79f8") true
  h (λ_ h=>by cases h) ayB (λ_ h=>by cases h) EH rfl ⟨rfl,rfl⟩ ayA rfl
  (λf b c a=>by
   obtain rfl:f=5:=Option.some.inj ((show Tryz.prog.funcNamed "wringing/wringinglaw08.RoomOpens"=some 5 from ac8).symm.trans c) |>.symm;obtain rfl:b=Tryz.f5:=(Option.some.inj (Tryz.func5.symm.trans a)).symm;exact⟨alI,λj t e=>by
    have d:Tryz.prog.wantsStandIn t=false:=(by simpa using List.all_eq_true.1 alJ t (Array.mem_toList_iff.2 (Array.mem_of_getElem? e)));exact d⟩)
  ayC
end Go.Proofs.YtfnlnpllpfhhnaaGreatDoor.TT
