/- The row of BenchPrints from its lifted form; no condition. -/
import Derived.Test.YteecnooaopfkeaaGreatDoorPE3
import Derived.JoinedCond
set_option linter.all false
namespace Go.Proofs.YteecnooaopfkeaaGreatDoor.TT
open Go
set_option maxRecDepth 100000
theorem XB:Tryz.prog.funcNamed "wringing/wringinglaw09.BenchPrints"=some 5:=by kernel_rfl
theorem aj0:Tryz.f5.isInstance Tryz.prog Rows.benchPrintsUptoRow.origin Rows.benchPrintsUptoRow.targs:=of_decide_eq_true (by kernel_rfl)
theorem aj1:Tryz.f5.isWrapper Tryz.prog Rows.benchPrintsUptoRow.wrapper Rows.benchPrintsUptoRow.mainSum:=by unfold Func.isWrapper;first | (rw [if_pos (by decide +kernel)];kernel_rfl) | (rw [if_neg (by decide +kernel)];exact⟨rfl,rfl⟩)
theorem aew (h:∀os:Os,os.Started->∀(H:Type)(enc:TypeId×Value->H),(∀a b,enc a=enc b->a=b)->∀F:Stop.Interp,
   ReturnsInHanded Rows.benchPrintsUptoRow.assume Tryz.pinned.checked os 5 .any (Rows.benchPrintsUptoRow.pre enc Tryz.pinned.checked.prog Tryz.f5 (Rows.OpenSpec.upto Rows.benchPrintsSpec)) (((Rows.OpenSpec.upto Rows.benchPrintsSpec).at F).post enc Tryz.pinned.checked.prog Tryz.f5 Rows.benchPrintsUptoRow.apart Rows.benchPrintsUptoRow.fresh Rows.benchPrintsUptoRow.handsOn Rows.benchPrintsUptoRow.again)):Rows.BenchPrintsUptoSaid:=
 OpenClaim.holds_of_cond (p:=Tryz.pinned) (s:=Rows.OpenSpec.upto Rows.benchPrintsSpec) 5 Tryz.f5 rfl rfl rfl rfl rfl rfl rfl ⟨rfl,rfl,rfl,rfl,rfl⟩ rfl rfl rfl rfl rfl XB Tryz.func5 aaH aj0 aj1 h
end Go.Proofs.YteecnooaopfkeaaGreatDoor.TT
