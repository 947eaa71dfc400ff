/- The row of BenchEvals from its lifted form; no condition. -/
import Derived.Test.YtcnimimffiiimaaGreatDoorPE3
set_option linter.all false
namespace Go.Proofs.YtcnimimffiiimaaGreatDoor.TT
open Go
set_option maxRecDepth 100000
theorem Wt:Tryz.prog.funcNamed "wringing/wringinglaw09.BenchEvals"=some 4:=by kernel_rfl
theorem aij:Tryz.f4.isInstance Tryz.prog Rows.benchEvalsRow.origin Rows.benchEvalsRow.targs:=of_decide_eq_true (by kernel_rfl)
theorem aik:Tryz.f4.isWrapper Tryz.prog Rows.benchEvalsRow.wrapper Rows.benchEvalsRow.mainSum:=by unfold Func.isWrapper;first | (rw [if_pos (by decide +kernel)];kernel_rfl) | (rw [if_neg (by decide +kernel)];exact⟨rfl,rfl⟩)
theorem adq (h:∀os:Os,os.Started->∀(H:Type)(enc:TypeId×Value->H),(∀a b,enc a=enc b->a=b)->
   ReturnsInHanded Rows.benchEvalsRow.assume Tryz.pinned.checked os 4 .any (Rows.benchEvalsRow.pre enc Tryz.pinned.checked.prog Tryz.f4 (OpenSpec.ofChange Rows.benchEvalsSpec)) (Rows.benchEvalsSpec.post enc Tryz.pinned.checked.prog Tryz.f4 Rows.benchEvalsRow.apart Rows.benchEvalsRow.fresh Rows.benchEvalsRow.handsOn Rows.benchEvalsRow.again)):Rows.BenchEvalsSaid:=
 OpenClaim.holds_of_wide (p:=Tryz.pinned) 4 Tryz.f4 rfl rfl rfl rfl rfl rfl rfl ⟨rfl,rfl,rfl,rfl,rfl⟩ rfl rfl rfl rfl rfl Wt Tryz.func4 ZF aij aik h
end Go.Proofs.YtcnimimffiiimaaGreatDoor.TT
