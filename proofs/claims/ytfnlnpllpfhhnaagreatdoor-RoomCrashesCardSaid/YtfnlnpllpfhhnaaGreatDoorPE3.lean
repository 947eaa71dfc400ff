/- The closed facts of the row of RoomCrashes; no condition. -/
import Derived.Test.YtfnlnpllpfhhnaaGreatDoorPE2
set_option linter.all false
namespace Go.Proofs.YtfnlnpllpfhhnaaGreatDoor.TT
open Go
set_option maxRecDepth 100000
set_option maxHeartbeats 4000000
theorem in6:Tryz.prog.inPlace 6=["internal/bytealg.CountString", "internal/bytealg.IndexByteString", "internal/bytealg.IndexString", "internal/abi.NoEscape", "internal/bytealg.MakeNoZero"]:=by unfold Program.inPlace;rw [cl6];kernel_rfl
theorem ayb:Tryz.prog.unfollowed 6=true:=by unfold Program.unfollowed;rw [cl6];kernel_rfl
theorem aEz:Tryz.prog.recurses 6=true:=by unfold Program.recurses;rw [ayb];rfl
theorem aEA:Tryz.prog.varsNamed 6=["internal/strconv.uint64pow10", "math/bits.deBruijn32tab", "math/bits.deBruijn64tab", "strconv.ErrSyntax", "strconv.ErrRange", "unicode/utf8.first", "unicode/utf8.acceptRanges", "internal/bytealg.MaxLen", "strings.asciiSpace", "unicode.White_Space"]:=by unfold Program.varsNamed;rw [cl6];kernel_rfl
theorem ayc {a b:Bool}(c:a=true)(d:b=true):(a&&b)=true:=by rw [c,d];rfl
theorem agr:joinedFacts Tryz.prog 6 Tryz.f6 Rows.roomCrashesSpec Rows.roomCrashesRow=true:=by
 unfold joinedFacts;repeat' with_reducible refine ayc ?_ ?_
 all_goals first | (rw [in6];rfl) | (rw [ayb];rfl) | (rw [aEz];rfl) | (rw [aEA];decide) | (as_aux_lemma=>kernel_rfl)
end Go.Proofs.YtfnlnpllpfhhnaaGreatDoor.TT
