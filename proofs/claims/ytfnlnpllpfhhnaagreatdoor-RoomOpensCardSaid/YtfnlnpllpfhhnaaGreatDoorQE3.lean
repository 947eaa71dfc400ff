/- The closed facts of the row of RoomOpens; no condition. -/
import Derived.Test.YtfnlnpllpfhhnaaGreatDoorQE2
set_option linter.all false
namespace Go.Proofs.YtfnlnpllpfhhnaaGreatDoor.TT
open Go
set_option maxRecDepth 100000
set_option maxHeartbeats 4000000
theorem in5:Tryz.prog.inPlace 5=["internal/bytealg.CountString", "internal/bytealg.IndexByteString", "internal/bytealg.IndexString", "internal/abi.NoEscape", "internal/bytealg.MakeNoZero"]:=by unfold Program.inPlace;rw [cl5];kernel_rfl
theorem aym:Tryz.prog.unfollowed 5=true:=by unfold Program.unfollowed;rw [cl5];kernel_rfl
theorem aDN:Tryz.prog.recurses 5=true:=by unfold Program.recurses;rw [aym];rfl
theorem aDO:Tryz.prog.varsNamed 5=["internal/strconv.uint64pow10", "math/bits.deBruijn32tab", "math/bits.deBruijn64tab", "strconv.ErrSyntax", "strconv.ErrRange", "unicode/utf8.first", "unicode/utf8.acceptRanges", "internal/bytealg.MaxLen", "strings.asciiSpace", "unicode.White_Space"]:=by unfold Program.varsNamed;rw [cl5];kernel_rfl
theorem ayn {a b:Bool}(c:a=true)(d:b=true):(a&&b)=true:=by rw [c,d];rfl
theorem ag5:joinedFacts Tryz.prog 5 Tryz.f5 Rows.roomOpensSpec Rows.roomOpensRow=true:=by
 unfold joinedFacts;repeat' with_reducible refine ayn ?_ ?_
 all_goals first | (rw [in5];rfl) | (rw [aym];rfl) | (rw [aDN];rfl) | (rw [aDO];decide) | (as_aux_lemma=>kernel_rfl)
end Go.Proofs.YtfnlnpllpfhhnaaGreatDoor.TT
