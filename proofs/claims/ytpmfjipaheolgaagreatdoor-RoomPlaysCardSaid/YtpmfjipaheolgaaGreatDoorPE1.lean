/- The row of RoomPlays from its lifted form; no condition. -/
import Derived.Test.YtpmfjipaheolgaaGreatDoorPE3
set_option linter.all false
namespace Go.Proofs.YtpmfjipaheolgaaGreatDoor.TT
open Go
set_option maxRecDepth 100000
theorem ad1:Tryz.prog.funcNamed "wringing/wringinglaw08.RoomPlays"=some 4:=by kernel_rfl
theorem arw:Tryz.f4.isInstance Tryz.prog Rows.roomPlaysRow.origin Rows.roomPlaysRow.targs:=of_decide_eq_true (by kernel_rfl)
theorem arx:Tryz.f4.isWrapper Tryz.prog Rows.roomPlaysRow.wrapper Rows.roomPlaysRow.mainSum:=by unfold Func.isWrapper;first|(rw[if_pos (by decide +kernel)];kernel_rfl)|(rw[if_neg (by decide +kernel)];exact⟨rfl,rfl⟩)
theorem ajf(h:∀os:Os,os.Started->∀(H:Type)(enc:TypeId×Value->H),(∀a b,enc a=enc b->a=b)->
   ReturnsInHanded Rows.roomPlaysRow.assume Tryz.pinned.checked os 4 .any (Rows.roomPlaysRow.pre enc Tryz.pinned.checked.prog Tryz.f4 (OpenSpec.ofChange Rows.roomPlaysSpec)) (Rows.roomPlaysSpec.post enc Tryz.pinned.checked.prog Tryz.f4 Rows.roomPlaysRow.apart Rows.roomPlaysRow.fresh Rows.roomPlaysRow.handsOn Rows.roomPlaysRow.again)):Rows.RoomPlaysSaid:=
 OpenClaim.holds_of_wide (p:=Tryz.pinned) 4 Tryz.f4 rfl rfl rfl rfl rfl rfl rfl ⟨rfl,rfl,rfl,rfl,rfl⟩ rfl rfl rfl rfl rfl ad1 Tryz.func4 agi arw arx h
end Go.Proofs.YtpmfjipaheolgaaGreatDoor.TT
