/- The row of BenchMemory from its lifted form; no condition. -/
import Derived.Test.YtfddpcckppibjaaGreatDoorPE3
import Derived.JoinedCond
set_option linter.all false
namespace Go.Proofs.YtfddpcckppibjaaGreatDoor.TT
open Go
set_option maxRecDepth 100000
theorem Yt:Tryz.prog.funcNamed "wringing/wringinglaw09.BenchMemory"=some 5:=by kernel_rfl
theorem ajP:Tryz.f5.isInstance Tryz.prog Rows.benchMemoryUptoRow.origin Rows.benchMemoryUptoRow.targs:=of_decide_eq_true (by kernel_rfl)
theorem ajQ:Tryz.f5.isWrapper Tryz.prog Rows.benchMemoryUptoRow.wrapper Rows.benchMemoryUptoRow.mainSum:=by unfold Func.isWrapper;first | (rw [if_pos (by decide +kernel)];kernel_rfl) | (rw [if_neg (by decide +kernel)];exact⟨rfl,rfl⟩)
theorem afn (h:∀os:Os,os.Started->∀(H:Type)(enc:TypeId×Value->H),(∀a b,enc a=enc b->a=b)->∀F:Stop.Interp,
   ReturnsInHanded Rows.benchMemoryUptoRow.assume Tryz.pinned.checked os 5 .any (Rows.benchMemoryUptoRow.pre enc Tryz.pinned.checked.prog Tryz.f5 (Rows.OpenSpec.upto Rows.benchMemorySpec)) (((Rows.OpenSpec.upto Rows.benchMemorySpec).at F).post enc Tryz.pinned.checked.prog Tryz.f5 Rows.benchMemoryUptoRow.apart Rows.benchMemoryUptoRow.fresh Rows.benchMemoryUptoRow.handsOn Rows.benchMemoryUptoRow.again)):Rows.BenchMemoryUptoSaid:=
 OpenClaim.holds_of_cond (p:=Tryz.pinned) (s:=Rows.OpenSpec.upto Rows.benchMemorySpec) 5 Tryz.f5 rfl rfl rfl rfl rfl rfl rfl ⟨rfl,rfl,rfl,rfl,rfl⟩ rfl rfl rfl rfl rfl Yt Tryz.func5 abz ajP ajQ h
end Go.Proofs.YtfddpcckppibjaaGreatDoor.TT
