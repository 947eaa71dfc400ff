/- The closed facts of the row of BenchEvals; no condition. -/
import Derived.Test.YtcnimimffiiimaaGreatDoorPE2
set_option linter.all false
namespace Go.Proofs.YtcnimimffiiimaaGreatDoor.TT
open Go
set_option maxRecDepth 100000
set_option maxHeartbeats 4000000
theorem in4:Tryz.prog.inPlace 4=["internal/bytealg.IndexByteString", "internal/bytealg.IndexString", "internal/abi.NoEscape", "internal/bytealg.MakeNoZero", "internal/bytealg.CountString"]:=by unfold Program.inPlace;rw [cl4];kernel_rfl
theorem aif:Tryz.prog.unfollowed 4=true:=by unfold Program.unfollowed;rw [cl4];kernel_rfl
theorem ap4:Tryz.prog.recurses 4=true:=by unfold Program.recurses;rw [aif];rfl
theorem ap5:Tryz.prog.varsNamed 4=["strconv.ErrSyntax", "strconv.ErrRange", "internal/strconv.uint64pow10", "math/bits.deBruijn32tab", "math/bits.deBruijn64tab", "internal/bytealg.MaxLen", "unicode/utf8.first", "unicode/utf8.acceptRanges", "strings.asciiSpace", "unicode.White_Space"]:=by unfold Program.varsNamed;rw [cl4];kernel_rfl
theorem aii {a b:Bool}(c:a=true)(d:b=true):(a&&b)=true:=by rw [c,d];rfl
theorem ZF:joinedFacts Tryz.prog 4 Tryz.f4 Rows.benchEvalsSpec Rows.benchEvalsRow=true:=by
 unfold joinedFacts;repeat' with_reducible refine aii ?_ ?_
 all_goals first | (rw [in4];rfl) | (rw [aif];rfl) | (rw [ap4];rfl) | (rw [ap5];decide) | (as_aux_lemma=>kernel_rfl)
end Go.Proofs.YtcnimimffiiimaaGreatDoor.TT
