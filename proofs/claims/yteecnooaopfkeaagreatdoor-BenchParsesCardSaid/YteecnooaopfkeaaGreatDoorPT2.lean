/- The tie of what the row lists; no condition. -/
import Derived.Test.YteecnooaopfkeaaGreatDoorPT2a
import Derived.Test.YteecnooaopfkeaaGreatDoorPT2b
import Derived.Test.YteecnooaopfkeaaGreatDoorPT2c
import Derived.Test.YteecnooaopfkeaaGreatDoorPT2d
import Derived.Test.YteecnooaopfkeaaGreatDoorPT2e
set_option linter.all false
namespace Go.Proofs.YteecnooaopfkeaaGreatDoor.TT
open Go
set_option maxRecDepth 100000
def WG:List MemPlace:=pl0++(pl1++(pl2++(pl3++(pl4++(pl6++(pl7++(pl8)))))))
theorem WH (os:Os)(tape:Tape):∃v w,runN Tryz.prog 96 (Machine.entering Tryz.prog (World.unlaid Tryz.prog os) tape (varsId Tryz.prog) ⟨#[],#[],[]⟩)=.ended (.done v) w∧DataW.laidRun Tryz.prog w.memory 8 (([("strconv.ErrSyntax",Rows.laid_strconv_ErrSyntax),("strconv.ErrRange",Rows.laid_strconv_ErrRange),("internal/strconv.uint64pow10",Rows.laid_internal_strconv_uint64pow10),("math/bits.deBruijn32tab",Rows.laid_math_bits_deBruijn32tab),("math/bits.deBruijn64tab",Rows.laid_math_bits_deBruijn64tab),("unicode/utf8.acceptRanges",Rows.laid_unicode_utf8_acceptRanges),("strings.asciiSpace",Rows.laid_strings_asciiSpace),("unicode.White_Space",Rows.laid_unicode_White_Space)]:List (String×DataW Unit)).map (·.1))=some ([("strconv.ErrSyntax",Rows.laid_strconv_ErrSyntax),("strconv.ErrRange",Rows.laid_strconv_ErrRange),("internal/strconv.uint64pow10",Rows.laid_internal_strconv_uint64pow10),("math/bits.deBruijn32tab",Rows.laid_math_bits_deBruijn32tab),("math/bits.deBruijn64tab",Rows.laid_math_bits_deBruijn64tab),("unicode/utf8.acceptRanges",Rows.laid_unicode_utf8_acceptRanges),("strings.asciiSpace",Rows.laid_strings_asciiSpace),("unicode.White_Space",Rows.laid_unicode_White_Space)],WG)∧laidRowsB Tryz.prog w.memory WG=true:=by obtain⟨v,w,hr,h0⟩:=Fy (rd0 os tape);obtain⟨h0,g0⟩:=jD h0;obtain⟨h1,g1⟩:=jD (oN (rd1 os tape) hr);obtain⟨h2,g2⟩:=jD (oN (rd2 os tape) hr);obtain⟨h3,g3⟩:=jD (oN (rd3 os tape) hr);obtain⟨h4,g4⟩:=jD (oN (rd4 os tape) hr);obtain⟨h6,g6⟩:=jD (oN (rd6 os tape) hr);obtain⟨h7,g7⟩:=jD (oN (rd7 os tape) hr);obtain⟨h8,g8⟩:=jD (oN (rd8 os tape) hr);refine⟨v,w,hr,fC h0 (fC h1 (fC h2 (fC h3 (fC h4 (fC h6 (fC h7 h8)))))),?_⟩;unfold laidRowsB at *;unfold WG;simp only [List.all_append,g0,g1,g2,g3,g4,g6,g7,g8,Bool.and_self]
theorem ZJ:nodupBits 257 WG 0=true:=by kernel_rfl
theorem agZ:Tryz.prog.kindOfLater "strconv.ErrSyntax"=some .sentinel:=by kernel_rfl
theorem ah0:Tryz.prog.kindOfLater "strconv.ErrRange"=some .sentinel:=by kernel_rfl
theorem ah1:Tryz.prog.kindOfLater "internal/strconv.uint64pow10"=some .data:=by kernel_rfl
theorem ah2:Tryz.prog.kindOfLater "math/bits.deBruijn32tab"=some .data:=by kernel_rfl
theorem ah3:Tryz.prog.kindOfLater "math/bits.deBruijn64tab"=some .data:=by kernel_rfl
theorem ah4:Tryz.prog.kindOfLater "unicode/utf8.acceptRanges"=some .data:=by kernel_rfl
theorem ah5:Tryz.prog.kindOfLater "strings.asciiSpace"=some .data:=by kernel_rfl
theorem ah6:Tryz.prog.kindOfLater "unicode.White_Space"=some .listed:=by kernel_rfl
theorem an8:Tryz.prog.laidByTextLater [("strconv.ErrSyntax",Rows.laid_strconv_ErrSyntax),("strconv.ErrRange",Rows.laid_strconv_ErrRange),("internal/strconv.uint64pow10",Rows.laid_internal_strconv_uint64pow10),("math/bits.deBruijn32tab",Rows.laid_math_bits_deBruijn32tab),("math/bits.deBruijn64tab",Rows.laid_math_bits_deBruijn64tab),("unicode/utf8.acceptRanges",Rows.laid_unicode_utf8_acceptRanges),("strings.asciiSpace",Rows.laid_strings_asciiSpace),("unicode.White_Space",Rows.laid_unicode_White_Space)] [.sentinel,.sentinel,.data,.data,.data,.data,.data,.listed] true:=
 TD 96 8 257 WG agY acV ZH (by simp only [List.map_cons,List.map_nil,agZ,ah0,ah1,ah2,ah3,ah4,ah5,ah6]) ZI WE (by kernel_rfl) WH ZJ
theorem TF:Tryz.pinned.checked.prog.pinnedFits "unicode/utf8.first"=true:=by kernel_rfl
theorem NT:Tryz.pinned.checked.prog.headLifts.contains "ownunsafe"=false:=by kernel_rfl
theorem ah7:Tryz.pinned.checked.prog.listedFits [("strconv.ErrSyntax",Rows.laid_strconv_ErrSyntax),("strconv.ErrRange",Rows.laid_strconv_ErrRange),("internal/strconv.uint64pow10",Rows.laid_internal_strconv_uint64pow10),("math/bits.deBruijn32tab",Rows.laid_math_bits_deBruijn32tab),("math/bits.deBruijn64tab",Rows.laid_math_bits_deBruijn64tab),("unicode/utf8.first",Rows.laid_unicode_utf8_first),("unicode/utf8.acceptRanges",Rows.laid_unicode_utf8_acceptRanges),("strings.asciiSpace",Rows.laid_strings_asciiSpace),("unicode.White_Space",Rows.laid_unicode_White_Space)]=true:=by
 unfold Program.listedFits;rw [NT]
 kernel_rfl
end Go.Proofs.YteecnooaopfkeaaGreatDoor.TT
