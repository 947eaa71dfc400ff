/- The row of BenchEvals from its lifted form; no condition. -/
import Derived.Test.YtfddpcckppibjaaGreatDoorPE3
import Derived.JoinedCond
set_option linter.all false
namespace Go.Proofs.YtfddpcckppibjaaGreatDoor.TT
open Go
set_option maxRecDepth 100000
theorem Wu:Tryz.prog.funcNamed "wringing/wringinglaw09.BenchEvals"=some 4:=by kernel_rfl
theorem aik:Tryz.f4.isInstance Tryz.prog Rows.benchEvalsUptoRow.origin Rows.benchEvalsUptoRow.targs:=of_decide_eq_true (by kernel_rfl)
theorem ail:Tryz.f4.isWrapper Tryz.prog Rows.benchEvalsUptoRow.wrapper Rows.benchEvalsUptoRow.mainSum:=by unfold Func.isWrapper;first | (rw [if_pos (by decide +kernel)];kernel_rfl) | (rw [if_neg (by decide +kernel)];exact⟨rfl,rfl⟩)
theorem adr (h:∀os:Os,os.Started->∀(H:Type)(enc:TypeId×Value->H),(∀a b,enc a=enc b->a=b)->∀F:Stop.Interp,
   ReturnsInHanded Rows.benchEvalsUptoRow.assume Tryz.pinned.checked os 4 .any (Rows.benchEvalsUptoRow.pre enc Tryz.pinned.checked.prog Tryz.f4 (Rows.OpenSpec.upto Rows.benchEvalsSpec)) (((Rows.OpenSpec.upto Rows.benchEvalsSpec).at F).post enc Tryz.pinned.checked.prog Tryz.f4 Rows.benchEvalsUptoRow.apart Rows.benchEvalsUptoRow.fresh Rows.benchEvalsUptoRow.handsOn Rows.benchEvalsUptoRow.again)):Rows.BenchEvalsUptoSaid:=
 OpenClaim.holds_of_cond (p:=Tryz.pinned) (s:=Rows.OpenSpec.upto Rows.benchEvalsSpec) 4 Tryz.f4 rfl rfl rfl rfl rfl rfl rfl ⟨rfl,rfl,rfl,rfl,rfl⟩ rfl rfl rfl rfl rfl Wu Tryz.func4 ZG aik ail h
end Go.Proofs.YtfddpcckppibjaaGreatDoor.TT
