/- The row of RoomOpens from its lifted form; no condition. -/
import Derived.Test.YtfnlnpllpfhhnaaGreatDoorQE3
set_option linter.all false
namespace Go.Proofs.YtfnlnpllpfhhnaaGreatDoor.TT
open Go
set_option maxRecDepth 100000
theorem ac8:Tryz.prog.funcNamed "wringing/wringinglaw08.RoomOpens"=some 5:=by kernel_rfl
theorem ayo:Tryz.f5.isInstance Tryz.prog Rows.roomOpensRow.origin Rows.roomOpensRow.targs:=of_decide_eq_true (by kernel_rfl)
theorem ayp:Tryz.f5.isWrapper Tryz.prog Rows.roomOpensRow.wrapper Rows.roomOpensRow.mainSum:=by unfold Func.isWrapper;first | (rw [if_pos (by decide +kernel)];kernel_rfl) | (rw [if_neg (by decide +kernel)];exact⟨rfl,rfl⟩)
theorem alG (h:∀os:Os,os.Started->∀(H:Type)(enc:TypeId×Value->H),(∀a b,enc a=enc b->a=b)->
   ReturnsInHanded Rows.roomOpensRow.assume Tryz.pinned.checked os 5 .any (Rows.roomOpensRow.pre enc Tryz.pinned.checked.prog Tryz.f5 (OpenSpec.ofChange Rows.roomOpensSpec)) (Rows.roomOpensSpec.post enc Tryz.pinned.checked.prog Tryz.f5 Rows.roomOpensRow.apart Rows.roomOpensRow.fresh Rows.roomOpensRow.handsOn Rows.roomOpensRow.again)):Rows.RoomOpensSaid:=
 OpenClaim.holds_of_wide (p:=Tryz.pinned) 5 Tryz.f5 rfl rfl rfl rfl rfl rfl rfl ⟨rfl,rfl,rfl,rfl,rfl⟩ rfl rfl rfl rfl rfl ac8 Tryz.func5 ag5 ayo ayp h
end Go.Proofs.YtfnlnpllpfhhnaaGreatDoor.TT
