/- The row of RoomCrashes from its lifted form; no condition. -/
import Derived.Test.YtfnlnpllpfhhnaaGreatDoorPE3
set_option linter.all false
namespace Go.Proofs.YtfnlnpllpfhhnaaGreatDoor.TT
open Go
set_option maxRecDepth 100000
theorem acU:Tryz.prog.funcNamed "wringing/wringinglaw08.RoomCrashes"=some 6:=by kernel_rfl
theorem ayd:Tryz.f6.isInstance Tryz.prog Rows.roomCrashesRow.origin Rows.roomCrashesRow.targs:=of_decide_eq_true (by kernel_rfl)
theorem aye:Tryz.f6.isWrapper Tryz.prog Rows.roomCrashesRow.wrapper Rows.roomCrashesRow.mainSum:=by unfold Func.isWrapper;first | (rw [if_pos (by decide +kernel)];kernel_rfl) | (rw [if_neg (by decide +kernel)];exact⟨rfl,rfl⟩)
theorem alR (h:∀os:Os,os.Started->∀(H:Type)(enc:TypeId×Value->H),(∀a b,enc a=enc b->a=b)->
   ReturnsInHanded Rows.roomCrashesRow.assume Tryz.pinned.checked os 6 .any (Rows.roomCrashesRow.pre enc Tryz.pinned.checked.prog Tryz.f6 (OpenSpec.ofChange Rows.roomCrashesSpec)) (Rows.roomCrashesSpec.post enc Tryz.pinned.checked.prog Tryz.f6 Rows.roomCrashesRow.apart Rows.roomCrashesRow.fresh Rows.roomCrashesRow.handsOn Rows.roomCrashesRow.again)):Rows.RoomCrashesSaid:=
 OpenClaim.holds_of_wide (p:=Tryz.pinned) 6 Tryz.f6 rfl rfl rfl rfl rfl rfl rfl ⟨rfl,rfl,rfl,rfl,rfl⟩ rfl rfl rfl rfl rfl acU Tryz.func6 agr ayd aye h
end Go.Proofs.YtfnlnpllpfhhnaaGreatDoor.TT
