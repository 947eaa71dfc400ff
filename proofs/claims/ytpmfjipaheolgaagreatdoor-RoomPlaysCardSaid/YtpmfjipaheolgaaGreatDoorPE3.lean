/- The closed facts of the row of RoomPlays; no condition. -/
import Derived.Test.YtpmfjipaheolgaaGreatDoorPE2
set_option linter.all false
namespace Go.Proofs.YtpmfjipaheolgaaGreatDoor.TT
open Go
set_option maxRecDepth 100000
set_option maxHeartbeats 4000000
theorem in4:Tryz.prog.inPlace 4=["internal/bytealg.CountString", "internal/bytealg.IndexByteString", "internal/bytealg.IndexString", "internal/abi.NoEscape", "internal/bytealg.MakeNoZero"]:=by unfold Program.inPlace;rw [cl4];kernel_rfl
theorem aru:Tryz.prog.unfollowed 4=true:=by unfold Program.unfollowed;rw[cl4];kernel_rfl
theorem avH:Tryz.prog.recurses 4=true:=by unfold Program.recurses;rw[aru];rfl
theorem avI:Tryz.prog.varsNamed 4=["internal/strconv.uint64pow10", "math/bits.deBruijn32tab", "math/bits.deBruijn64tab", "strconv.ErrSyntax", "strconv.ErrRange", "unicode/utf8.first", "unicode/utf8.acceptRanges", "internal/bytealg.MaxLen", "strings.asciiSpace", "unicode.White_Space"]:=by unfold Program.varsNamed;rw [cl4];kernel_rfl
theorem arv{a b:Bool}(c:a=true)(d:b=true):(a&&b)=true:=by rw[c,d];rfl
theorem agi:joinedFacts Tryz.prog 4 Tryz.f4 Rows.roomPlaysSpec Rows.roomPlaysRow=true:=by
 unfold joinedFacts;repeat' with_reducible refine arv ?_ ?_
 all_goals first|(rw[in4];rfl)|(rw[aru];rfl)|(rw[avH];rfl)|(rw[avI];decide)|(as_aux_lemma=>kernel_rfl)
end Go.Proofs.YtpmfjipaheolgaaGreatDoor.TT
