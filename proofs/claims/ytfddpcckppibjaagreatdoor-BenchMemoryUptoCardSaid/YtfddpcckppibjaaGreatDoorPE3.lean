/- The closed facts of the row of BenchMemory; no condition. -/
import Derived.Test.YtfddpcckppibjaaGreatDoorPE2
set_option linter.all false
namespace Go.Proofs.YtfddpcckppibjaaGreatDoor.TT
open Go
set_option maxRecDepth 100000
set_option maxHeartbeats 4000000
theorem in5:Tryz.prog.inPlace 5=["internal/bytealg.CountString", "internal/bytealg.IndexByteString", "internal/bytealg.IndexString", "internal/abi.NoEscape", "internal/bytealg.MakeNoZero"]:=by unfold Program.inPlace;rw [cl5];kernel_rfl
theorem ajN:Tryz.prog.unfollowed 5=true:=by unfold Program.unfollowed;rw [cl5];kernel_rfl
theorem apx:Tryz.prog.recurses 5=true:=by unfold Program.recurses;rw [ajN];rfl
theorem apy:Tryz.prog.varsNamed 5=["internal/strconv.uint64pow10", "math/bits.deBruijn32tab", "math/bits.deBruijn64tab", "strconv.ErrSyntax", "strconv.ErrRange", "unicode/utf8.first", "unicode/utf8.acceptRanges", "internal/bytealg.MaxLen", "strings.asciiSpace", "unicode.White_Space"]:=by unfold Program.varsNamed;rw [cl5];kernel_rfl
theorem ajO {a b:Bool}(c:a=true)(d:b=true):(a&&b)=true:=by rw [c,d];rfl
theorem abz:joinedFacts Tryz.prog 5 Tryz.f5 (Rows.OpenSpec.upto Rows.benchMemorySpec).bare Rows.benchMemoryUptoRow=true:=by
 unfold joinedFacts;repeat' with_reducible refine ajO ?_ ?_
 all_goals first | (rw [in5];rfl) | (rw [ajN];rfl) | (rw [apx];rfl) | (rw [apy];decide) | (as_aux_lemma=>kernel_rfl)
end Go.Proofs.YtfddpcckppibjaaGreatDoor.TT
