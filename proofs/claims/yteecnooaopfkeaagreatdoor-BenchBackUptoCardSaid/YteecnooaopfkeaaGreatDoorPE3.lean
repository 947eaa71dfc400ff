/- The closed facts of the row of BenchBack; no condition. -/
import Derived.Test.YteecnooaopfkeaaGreatDoorPE2
set_option linter.all false
namespace Go.Proofs.YteecnooaopfkeaaGreatDoor.TT
open Go
set_option maxRecDepth 100000
set_option maxHeartbeats 4000000
theorem in6:Tryz.prog.inPlace 6=["internal/bytealg.IndexByteString", "internal/bytealg.IndexString", "internal/abi.NoEscape", "internal/bytealg.MakeNoZero", "internal/bytealg.CountString"]:=by unfold Program.inPlace;rw [cl6];kernel_rfl
theorem akE:Tryz.prog.unfollowed 6=true:=by unfold Program.unfollowed;rw [cl6];kernel_rfl
theorem aqj:Tryz.prog.recurses 6=true:=by unfold Program.recurses;rw [akE];rfl
theorem aqk:Tryz.prog.varsNamed 6=["strconv.ErrSyntax", "strconv.ErrRange", "internal/strconv.uint64pow10", "math/bits.deBruijn32tab", "math/bits.deBruijn64tab", "internal/bytealg.MaxLen", "unicode/utf8.first", "unicode/utf8.acceptRanges", "strings.asciiSpace", "unicode.White_Space"]:=by unfold Program.varsNamed;rw [cl6];kernel_rfl
theorem akF {a b:Bool}(c:a=true)(d:b=true):(a&&b)=true:=by rw [c,d];rfl
theorem acT:joinedFacts Tryz.prog 6 Tryz.f6 (Rows.OpenSpec.upto Rows.benchBackSpec).bare Rows.benchBackUptoRow=true:=by
 unfold joinedFacts;repeat' with_reducible refine akF ?_ ?_
 all_goals first | (rw [in6];rfl) | (rw [akE];rfl) | (rw [aqj];rfl) | (rw [aqk];decide) | (as_aux_lemma=>kernel_rfl)
end Go.Proofs.YteecnooaopfkeaaGreatDoor.TT
