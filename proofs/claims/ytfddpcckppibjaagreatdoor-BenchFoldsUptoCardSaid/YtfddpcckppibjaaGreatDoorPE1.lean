/- The row of BenchFolds from its lifted form; no condition. -/
import Derived.Test.YtfddpcckppibjaaGreatDoorPE3
import Derived.JoinedCond
set_option linter.all false
namespace Go.Proofs.YtfddpcckppibjaaGreatDoor.TT
open Go
set_option maxRecDepth 100000
theorem YU:Tryz.prog.funcNamed "wringing/wringinglaw09.BenchFolds"=some 3:=by kernel_rfl
theorem akJ:Tryz.f3.isInstance Tryz.prog Rows.benchFoldsUptoRow.origin Rows.benchFoldsUptoRow.targs:=of_decide_eq_true (by kernel_rfl)
theorem akK:Tryz.f3.isWrapper Tryz.prog Rows.benchFoldsUptoRow.wrapper Rows.benchFoldsUptoRow.mainSum:=by unfold Func.isWrapper;first | (rw [if_pos (by decide +kernel)];kernel_rfl) | (rw [if_neg (by decide +kernel)];exact⟨rfl,rfl⟩)
theorem ag8 (h:∀os:Os,os.Started->∀(H:Type)(enc:TypeId×Value->H),(∀a b,enc a=enc b->a=b)->∀F:Stop.Interp,
   ReturnsInHanded Rows.benchFoldsUptoRow.assume Tryz.pinned.checked os 3 .any (Rows.benchFoldsUptoRow.pre enc Tryz.pinned.checked.prog Tryz.f3 (Rows.OpenSpec.upto Rows.benchFoldsSpec)) (((Rows.OpenSpec.upto Rows.benchFoldsSpec).at F).post enc Tryz.pinned.checked.prog Tryz.f3 Rows.benchFoldsUptoRow.apart Rows.benchFoldsUptoRow.fresh Rows.benchFoldsUptoRow.handsOn Rows.benchFoldsUptoRow.again)):Rows.BenchFoldsUptoSaid:=
 OpenClaim.holds_of_cond (p:=Tryz.pinned) (s:=Rows.OpenSpec.upto Rows.benchFoldsSpec) 3 Tryz.f3 rfl rfl rfl rfl rfl rfl rfl ⟨rfl,rfl,rfl,rfl,rfl⟩ rfl rfl rfl rfl rfl YU Tryz.func3 ace akJ akK h
end Go.Proofs.YtfddpcckppibjaaGreatDoor.TT
