/- The tie of what the row lists; no condition. -/
import Derived.Test.YteecnooaopfkeaaGreatDoorLT2a
import Derived.Test.YteecnooaopfkeaaGreatDoorLT2b
import Derived.Test.YteecnooaopfkeaaGreatDoorLT2c
import Derived.Test.YteecnooaopfkeaaGreatDoorLT2d
import Derived.Test.YteecnooaopfkeaaGreatDoorLT2e
set_option linter.unusedSimpArgs false
set_option linter.unusedVariables false
namespace Go.Proofs.YteecnooaopfkeaaGreatDoor.TT
open Go
set_option maxRecDepth 100000
def Ri:List MemPlace:=pl0++(pl1++(pl2++(pl3++(pl4++(pl6++(pl7++(pl8)))))))
theorem JN (os:Os)(tape:Tape):∃v w,runN Tryz.prog 96 (Machine.entering Tryz.prog (World.unlaid Tryz.prog os) tape (varsId Tryz.prog) ⟨#[],#[],[]⟩)=.ended (.done v) w∧DataW.laidRun Tryz.prog w.memory 8 (([("strconv.ErrSyntax",Rows.laid_strconv_ErrSyntax),("strconv.ErrRange",Rows.laid_strconv_ErrRange),("internal/strconv.uint64pow10",Rows.laid_internal_strconv_uint64pow10),("math/bits.deBruijn32tab",Rows.laid_math_bits_deBruijn32tab),("math/bits.deBruijn64tab",Rows.laid_math_bits_deBruijn64tab),("unicode/utf8.acceptRanges",Rows.laid_unicode_utf8_acceptRanges),("strings.asciiSpace",Rows.laid_strings_asciiSpace),("unicode.White_Space",Rows.laid_unicode_White_Space)]:List (String×DataW Unit)).map (·.1))=some ([("strconv.ErrSyntax",Rows.laid_strconv_ErrSyntax),("strconv.ErrRange",Rows.laid_strconv_ErrRange),("internal/strconv.uint64pow10",Rows.laid_internal_strconv_uint64pow10),("math/bits.deBruijn32tab",Rows.laid_math_bits_deBruijn32tab),("math/bits.deBruijn64tab",Rows.laid_math_bits_deBruijn64tab),("unicode/utf8.acceptRanges",Rows.laid_unicode_utf8_acceptRanges),("strings.asciiSpace",Rows.laid_strings_asciiSpace),("unicode.White_Space",Rows.laid_unicode_White_Space)],Ri)∧laidRowsB Tryz.prog w.memory Ri=true:=by
 obtain⟨v,w,hr,h0⟩:=vv (rd0 os tape)
 obtain⟨h0,g0⟩:=bZ h0
 obtain⟨h1,g1⟩:=bZ (iD (rd1 os tape) hr)
 obtain⟨h2,g2⟩:=bZ (iD (rd2 os tape) hr)
 obtain⟨h3,g3⟩:=bZ (iD (rd3 os tape) hr)
 obtain⟨h4,g4⟩:=bZ (iD (rd4 os tape) hr)
 obtain⟨h6,g6⟩:=bZ (iD (rd6 os tape) hr)
 obtain⟨h7,g7⟩:=bZ (iD (rd7 os tape) hr)
 obtain⟨h8,g8⟩:=bZ (iD (rd8 os tape) hr)
 refine⟨v,w,hr,U4 h0 (U4 h1 (U4 h2 (U4 h3 (U4 h4 (U4 h6 (U4 h7 h8)))))),?_⟩
 unfold laidRowsB at *
 unfold Ri
 simp only [List.all_append,g0,g1,g2,g3,g4,g6,g7,g8,Bool.and_self]
theorem Nk:nodupBits 257 Ri 0=true:=by kernel_rfl
theorem acz:Tryz.prog.kindOfLater "strconv.ErrSyntax"=some .sentinel:=by kernel_rfl
theorem acA:Tryz.prog.kindOfLater "strconv.ErrRange"=some .sentinel:=by kernel_rfl
theorem acB:Tryz.prog.kindOfLater "internal/strconv.uint64pow10"=some .data:=by kernel_rfl
theorem acC:Tryz.prog.kindOfLater "math/bits.deBruijn32tab"=some .data:=by kernel_rfl
theorem acD:Tryz.prog.kindOfLater "math/bits.deBruijn64tab"=some .data:=by kernel_rfl
theorem acE:Tryz.prog.kindOfLater "unicode/utf8.acceptRanges"=some .data:=by kernel_rfl
theorem acF:Tryz.prog.kindOfLater "strings.asciiSpace"=some .data:=by kernel_rfl
theorem acG:Tryz.prog.kindOfLater "unicode.White_Space"=some .listed:=by kernel_rfl
theorem aiB:Tryz.prog.laidByTextLater [("strconv.ErrSyntax",Rows.laid_strconv_ErrSyntax),("strconv.ErrRange",Rows.laid_strconv_ErrRange),("internal/strconv.uint64pow10",Rows.laid_internal_strconv_uint64pow10),("math/bits.deBruijn32tab",Rows.laid_math_bits_deBruijn32tab),("math/bits.deBruijn64tab",Rows.laid_math_bits_deBruijn64tab),("unicode/utf8.acceptRanges",Rows.laid_unicode_utf8_acceptRanges),("strings.asciiSpace",Rows.laid_strings_asciiSpace),("unicode.White_Space",Rows.laid_unicode_White_Space)] [.sentinel,.sentinel,.data,.data,.data,.data,.data,.listed] true:=
 Ia 96 8 257 Ri acy Rh Ni (by simp only [List.map_cons,List.map_nil,acz,acA,acB,acC,acD,acE,acF,acG]) Nj JM (by kernel_rfl) JN Nk
theorem Ib:Tryz.pinned.checked.prog.pinnedFits "unicode/utf8.first"=true:=by kernel_rfl
theorem Bj:Tryz.pinned.checked.prog.headLifts.contains "ownunsafe"=false:=by kernel_rfl
theorem acH:Tryz.pinned.checked.prog.listedFits [("strconv.ErrSyntax",Rows.laid_strconv_ErrSyntax),("strconv.ErrRange",Rows.laid_strconv_ErrRange),("internal/strconv.uint64pow10",Rows.laid_internal_strconv_uint64pow10),("math/bits.deBruijn32tab",Rows.laid_math_bits_deBruijn32tab),("math/bits.deBruijn64tab",Rows.laid_math_bits_deBruijn64tab),("unicode/utf8.first",Rows.laid_unicode_utf8_first),("unicode/utf8.acceptRanges",Rows.laid_unicode_utf8_acceptRanges),("strings.asciiSpace",Rows.laid_strings_asciiSpace),("unicode.White_Space",Rows.laid_unicode_White_Space)]=true:=by
 unfold Program.listedFits
 rw [Bj]
 kernel_rfl
end Go.Proofs.YteecnooaopfkeaaGreatDoor.TT
