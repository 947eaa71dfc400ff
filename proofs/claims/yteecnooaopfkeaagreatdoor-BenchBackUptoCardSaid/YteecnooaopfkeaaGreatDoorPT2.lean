/- The tie of what the row lists; no condition. -/
import Derived.Test.YteecnooaopfkeaaGreatDoorPT2a
import Derived.Test.YteecnooaopfkeaaGreatDoorPT2b
import Derived.Test.YteecnooaopfkeaaGreatDoorPT2c
import Derived.Test.YteecnooaopfkeaaGreatDoorPT2d
import Derived.Test.YteecnooaopfkeaaGreatDoorPT2e
set_option linter.all false
namespace Go.Proofs.YteecnooaopfkeaaGreatDoor.TT
open Go
set_option maxRecDepth 100000
def aad:List MemPlace:=pl0++(pl1++(pl2++(pl3++(pl4++(pl6++(pl7++(pl8)))))))
theorem aae (b:Os)(a:Tape):∃v w,runN Tryz.prog 96 (Machine.entering Tryz.prog (World.unlaid Tryz.prog b) a (varsId Tryz.prog) ⟨#[],#[],[]⟩)=.ended (.done v) w∧DataW.laidRun Tryz.prog w.memory 8 (([("strconv.ErrSyntax",Rows.laid_strconv_ErrSyntax),("strconv.ErrRange",Rows.laid_strconv_ErrRange),("internal/strconv.uint64pow10",Rows.laid_internal_strconv_uint64pow10),("math/bits.deBruijn32tab",Rows.laid_math_bits_deBruijn32tab),("math/bits.deBruijn64tab",Rows.laid_math_bits_deBruijn64tab),("unicode/utf8.acceptRanges",Rows.laid_unicode_utf8_acceptRanges),("strings.asciiSpace",Rows.laid_strings_asciiSpace),("unicode.White_Space",Rows.laid_unicode_White_Space)]:List (String×DataW Unit)).map (·.1))=some ([("strconv.ErrSyntax",Rows.laid_strconv_ErrSyntax),("strconv.ErrRange",Rows.laid_strconv_ErrRange),("internal/strconv.uint64pow10",Rows.laid_internal_strconv_uint64pow10),("math/bits.deBruijn32tab",Rows.laid_math_bits_deBruijn32tab),("math/bits.deBruijn64tab",Rows.laid_math_bits_deBruijn64tab),("unicode/utf8.acceptRanges",Rows.laid_unicode_utf8_acceptRanges),("strings.asciiSpace",Rows.laid_strings_asciiSpace),("unicode.White_Space",Rows.laid_unicode_White_Space)],aad)∧laidRowsB Tryz.prog w.memory aad=true:=by obtain⟨v,w,c,d⟩:=Ip (rd0 b a);obtain⟨d,e⟩:=kD d;obtain⟨m,f⟩:=kD (qc (rd1 b a) c);obtain⟨n,g⟩:=kD (qc (rd2 b a) c);obtain⟨o,h⟩:=kD (qc (rd3 b a) c);obtain⟨p,i⟩:=kD (qc (rd4 b a) c);obtain⟨q,j⟩:=kD (qc (rd6 b a) c);obtain⟨r,k⟩:=kD (qc (rd7 b a) c);obtain⟨s,l⟩:=kD (qc (rd8 b a) c);refine⟨v,w,c,gX d (gX m (gX n (gX o (gX p (gX q (gX r s)))))),?_⟩;unfold laidRowsB at *;unfold aad;simp only [List.all_append,e,f,g,h,i,j,k,l,Bool.and_self]
theorem acW:nodupBits 257 aad 0=true:=by kernel_rfl
theorem akJ:Tryz.prog.kindOfLater "strconv.ErrSyntax"=some .sentinel:=by kernel_rfl
theorem akK:Tryz.prog.kindOfLater "strconv.ErrRange"=some .sentinel:=by kernel_rfl
theorem akL:Tryz.prog.kindOfLater "internal/strconv.uint64pow10"=some .data:=by kernel_rfl
theorem akM:Tryz.prog.kindOfLater "math/bits.deBruijn32tab"=some .data:=by kernel_rfl
theorem akN:Tryz.prog.kindOfLater "math/bits.deBruijn64tab"=some .data:=by kernel_rfl
theorem akO:Tryz.prog.kindOfLater "unicode/utf8.acceptRanges"=some .data:=by kernel_rfl
theorem akP:Tryz.prog.kindOfLater "strings.asciiSpace"=some .data:=by kernel_rfl
theorem akQ:Tryz.prog.kindOfLater "unicode.White_Space"=some .listed:=by kernel_rfl
theorem aql:Tryz.prog.laidByTextLater [("strconv.ErrSyntax",Rows.laid_strconv_ErrSyntax),("strconv.ErrRange",Rows.laid_strconv_ErrRange),("internal/strconv.uint64pow10",Rows.laid_internal_strconv_uint64pow10),("math/bits.deBruijn32tab",Rows.laid_math_bits_deBruijn32tab),("math/bits.deBruijn64tab",Rows.laid_math_bits_deBruijn64tab),("unicode/utf8.acceptRanges",Rows.laid_unicode_utf8_acceptRanges),("strings.asciiSpace",Rows.laid_strings_asciiSpace),("unicode.White_Space",Rows.laid_unicode_White_Space)] [.sentinel,.sentinel,.data,.data,.data,.data,.data,.listed] true:=
 WM 96 8 257 aad akI agw acU (by simp only [List.map_cons,List.map_nil,akJ,akK,akL,akM,akN,akO,akP,akQ]) acV aac (by kernel_rfl) aae acW
theorem WO:Tryz.pinned.checked.prog.pinnedFits "unicode/utf8.first"=true:=by kernel_rfl
theorem QO:Tryz.pinned.checked.prog.headLifts.contains "ownunsafe"=false:=by kernel_rfl
theorem akR:Tryz.pinned.checked.prog.listedFits [("strconv.ErrSyntax",Rows.laid_strconv_ErrSyntax),("strconv.ErrRange",Rows.laid_strconv_ErrRange),("internal/strconv.uint64pow10",Rows.laid_internal_strconv_uint64pow10),("math/bits.deBruijn32tab",Rows.laid_math_bits_deBruijn32tab),("math/bits.deBruijn64tab",Rows.laid_math_bits_deBruijn64tab),("unicode/utf8.first",Rows.laid_unicode_utf8_first),("unicode/utf8.acceptRanges",Rows.laid_unicode_utf8_acceptRanges),("strings.asciiSpace",Rows.laid_strings_asciiSpace),("unicode.White_Space",Rows.laid_unicode_White_Space)]=true:=by
 unfold Program.listedFits;rw [QO]
 kernel_rfl
end Go.Proofs.YteecnooaopfkeaaGreatDoor.TT
