/- The closed facts of the row of BenchFolds; no condition. -/
import Derived.Test.YtfddpcckppibjaaGreatDoorPE2
set_option linter.all false
namespace Go.Proofs.YtfddpcckppibjaaGreatDoor.TT
open Go
set_option maxRecDepth 100000
set_option maxHeartbeats 4000000
theorem in3:Tryz.prog.inPlace 3=["internal/bytealg.IndexByteString", "internal/bytealg.IndexString", "internal/abi.NoEscape", "internal/bytealg.MakeNoZero", "internal/bytealg.CountString"]:=by unfold Program.inPlace;rw [cl3];kernel_rfl
theorem akH:Tryz.prog.unfollowed 3=true:=by unfold Program.unfollowed;rw [cl3];kernel_rfl
theorem arD:Tryz.prog.recurses 3=true:=by unfold Program.recurses;rw [akH];rfl
theorem arE:Tryz.prog.varsNamed 3=["strconv.ErrSyntax", "strconv.ErrRange", "internal/strconv.uint64pow10", "math/bits.deBruijn32tab", "math/bits.deBruijn64tab", "internal/bytealg.MaxLen", "unicode/utf8.first", "unicode/utf8.acceptRanges", "strings.asciiSpace", "unicode.White_Space"]:=by unfold Program.varsNamed;rw [cl3];kernel_rfl
theorem akI {a b:Bool}(c:a=true)(d:b=true):(a&&b)=true:=by rw [c,d];rfl
theorem ace:joinedFacts Tryz.prog 3 Tryz.f3 (Rows.OpenSpec.upto Rows.benchFoldsSpec).bare Rows.benchFoldsUptoRow=true:=by
 unfold joinedFacts;repeat' with_reducible refine akI ?_ ?_
 all_goals first | (rw [in3];rfl) | (rw [akH];rfl) | (rw [arD];rfl) | (rw [arE];decide) | (as_aux_lemma=>kernel_rfl)
end Go.Proofs.YtfddpcckppibjaaGreatDoor.TT
