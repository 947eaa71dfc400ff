/- The tie of what the row lists; no condition. -/
import Derived.Test.YteecnooaopfkeaaGreatDoorPT2a
import Derived.Test.YteecnooaopfkeaaGreatDoorPT2b
import Derived.Test.YteecnooaopfkeaaGreatDoorPT2c
import Derived.Test.YteecnooaopfkeaaGreatDoorPT2d
import Derived.Test.YteecnooaopfkeaaGreatDoorPT2e
set_option linter.all false
namespace Go.Proofs.YteecnooaopfkeaaGreatDoor.TT
open Go
set_option maxRecDepth 100000
def XD:List MemPlace:=pl0++(pl1++(pl2++(pl3++(pl4++(pl6++(pl7++(pl8)))))))
theorem XE (b:Os)(a:Tape):∃v w,runN Tryz.prog 96 (Machine.entering Tryz.prog (World.unlaid Tryz.prog b) a (varsId Tryz.prog) ⟨#[],#[],[]⟩)=.ended (.done v) w∧DataW.laidRun Tryz.prog w.memory 8 (([("strconv.ErrSyntax",Rows.laid_strconv_ErrSyntax),("strconv.ErrRange",Rows.laid_strconv_ErrRange),("internal/strconv.uint64pow10",Rows.laid_internal_strconv_uint64pow10),("math/bits.deBruijn32tab",Rows.laid_math_bits_deBruijn32tab),("math/bits.deBruijn64tab",Rows.laid_math_bits_deBruijn64tab),("unicode/utf8.acceptRanges",Rows.laid_unicode_utf8_acceptRanges),("strings.asciiSpace",Rows.laid_strings_asciiSpace),("unicode.White_Space",Rows.laid_unicode_White_Space)]:List (String×DataW Unit)).map (·.1))=some ([("strconv.ErrSyntax",Rows.laid_strconv_ErrSyntax),("strconv.ErrRange",Rows.laid_strconv_ErrRange),("internal/strconv.uint64pow10",Rows.laid_internal_strconv_uint64pow10),("math/bits.deBruijn32tab",Rows.laid_math_bits_deBruijn32tab),("math/bits.deBruijn64tab",Rows.laid_math_bits_deBruijn64tab),("unicode/utf8.acceptRanges",Rows.laid_unicode_utf8_acceptRanges),("strings.asciiSpace",Rows.laid_strings_asciiSpace),("unicode.White_Space",Rows.laid_unicode_White_Space)],XD)∧laidRowsB Tryz.prog w.memory XD=true:=by obtain⟨v,w,c,d⟩:=FZ (rd0 b a);obtain⟨d,e⟩:=jJ d;obtain⟨m,f⟩:=jJ (oL (rd1 b a) c);obtain⟨n,g⟩:=jJ (oL (rd2 b a) c);obtain⟨o,h⟩:=jJ (oL (rd3 b a) c);obtain⟨p,i⟩:=jJ (oL (rd4 b a) c);obtain⟨q,j⟩:=jJ (oL (rd6 b a) c);obtain⟨r,k⟩:=jJ (oL (rd7 b a) c);obtain⟨s,l⟩:=jJ (oL (rd8 b a) c);refine⟨v,w,c,fG d (fG m (fG n (fG o (fG p (fG q (fG r s)))))),?_⟩;unfold laidRowsB at *;unfold XD;simp only [List.all_append,e,f,g,h,i,j,k,l,Bool.and_self]
theorem aaK:nodupBits 257 XD 0=true:=by kernel_rfl
theorem aj3:Tryz.prog.kindOfLater "strconv.ErrSyntax"=some .sentinel:=by kernel_rfl
theorem aj4:Tryz.prog.kindOfLater "strconv.ErrRange"=some .sentinel:=by kernel_rfl
theorem aj5:Tryz.prog.kindOfLater "internal/strconv.uint64pow10"=some .data:=by kernel_rfl
theorem aj6:Tryz.prog.kindOfLater "math/bits.deBruijn32tab"=some .data:=by kernel_rfl
theorem aj7:Tryz.prog.kindOfLater "math/bits.deBruijn64tab"=some .data:=by kernel_rfl
theorem aj8:Tryz.prog.kindOfLater "unicode/utf8.acceptRanges"=some .data:=by kernel_rfl
theorem aj9:Tryz.prog.kindOfLater "strings.asciiSpace"=some .data:=by kernel_rfl
theorem aja:Tryz.prog.kindOfLater "unicode.White_Space"=some .listed:=by kernel_rfl
theorem apq:Tryz.prog.laidByTextLater [("strconv.ErrSyntax",Rows.laid_strconv_ErrSyntax),("strconv.ErrRange",Rows.laid_strconv_ErrRange),("internal/strconv.uint64pow10",Rows.laid_internal_strconv_uint64pow10),("math/bits.deBruijn32tab",Rows.laid_math_bits_deBruijn32tab),("math/bits.deBruijn64tab",Rows.laid_math_bits_deBruijn64tab),("unicode/utf8.acceptRanges",Rows.laid_unicode_utf8_acceptRanges),("strings.asciiSpace",Rows.laid_strings_asciiSpace),("unicode.White_Space",Rows.laid_unicode_White_Space)] [.sentinel,.sentinel,.data,.data,.data,.data,.data,.listed] true:=
 Ub 96 8 257 XD aj2 aex aaI (by simp only [List.map_cons,List.map_nil,aj3,aj4,aj5,aj6,aj7,aj8,aj9,aja]) aaJ XC (by kernel_rfl) XE aaK
theorem Uc:Tryz.pinned.checked.prog.pinnedFits "unicode/utf8.first"=true:=by kernel_rfl
theorem Oo:Tryz.pinned.checked.prog.headLifts.contains "ownunsafe"=false:=by kernel_rfl
theorem ajb:Tryz.pinned.checked.prog.listedFits [("strconv.ErrSyntax",Rows.laid_strconv_ErrSyntax),("strconv.ErrRange",Rows.laid_strconv_ErrRange),("internal/strconv.uint64pow10",Rows.laid_internal_strconv_uint64pow10),("math/bits.deBruijn32tab",Rows.laid_math_bits_deBruijn32tab),("math/bits.deBruijn64tab",Rows.laid_math_bits_deBruijn64tab),("unicode/utf8.first",Rows.laid_unicode_utf8_first),("unicode/utf8.acceptRanges",Rows.laid_unicode_utf8_acceptRanges),("strings.asciiSpace",Rows.laid_strings_asciiSpace),("unicode.White_Space",Rows.laid_unicode_White_Space)]=true:=by
 unfold Program.listedFits;rw [Oo]
 kernel_rfl
end Go.Proofs.YteecnooaopfkeaaGreatDoor.TT
