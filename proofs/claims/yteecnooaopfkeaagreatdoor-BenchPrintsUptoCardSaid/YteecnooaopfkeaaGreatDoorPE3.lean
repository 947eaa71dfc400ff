/- The closed facts of the row of BenchPrints; no condition. -/
import Derived.Test.YteecnooaopfkeaaGreatDoorPE2
set_option linter.all false
namespace Go.Proofs.YteecnooaopfkeaaGreatDoor.TT
open Go
set_option maxRecDepth 100000
set_option maxHeartbeats 4000000
theorem in5:Tryz.prog.inPlace 5=["internal/bytealg.IndexByteString", "internal/bytealg.IndexString", "internal/abi.NoEscape", "internal/bytealg.MakeNoZero", "internal/bytealg.CountString"]:=by unfold Program.inPlace;rw [cl5];kernel_rfl
theorem aiY:Tryz.prog.unfollowed 5=true:=by unfold Program.unfollowed;rw [cl5];kernel_rfl
theorem apn:Tryz.prog.recurses 5=true:=by unfold Program.recurses;rw [aiY];rfl
theorem apo:Tryz.prog.varsNamed 5=["strconv.ErrSyntax", "strconv.ErrRange", "internal/strconv.uint64pow10", "math/bits.deBruijn32tab", "math/bits.deBruijn64tab", "internal/bytealg.MaxLen", "unicode/utf8.first", "unicode/utf8.acceptRanges", "strings.asciiSpace", "unicode.White_Space"]:=by unfold Program.varsNamed;rw [cl5];kernel_rfl
theorem aiZ {a b:Bool}(c:a=true)(d:b=true):(a&&b)=true:=by rw [c,d];rfl
theorem aaH:joinedFacts Tryz.prog 5 Tryz.f5 (Rows.OpenSpec.upto Rows.benchPrintsSpec).bare Rows.benchPrintsUptoRow=true:=by
 unfold joinedFacts;repeat' with_reducible refine aiZ ?_ ?_
 all_goals first | (rw [in5];rfl) | (rw [aiY];rfl) | (rw [apn];rfl) | (rw [apo];decide) | (as_aux_lemma=>kernel_rfl)
end Go.Proofs.YteecnooaopfkeaaGreatDoor.TT
