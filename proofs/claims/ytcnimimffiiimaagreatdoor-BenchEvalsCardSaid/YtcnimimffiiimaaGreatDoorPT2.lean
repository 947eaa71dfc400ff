/- The tie of what the row lists; no condition. -/
import Derived.Test.YtcnimimffiiimaaGreatDoorPT2a
import Derived.Test.YtcnimimffiiimaaGreatDoorPT2b
import Derived.Test.YtcnimimffiiimaaGreatDoorPT2c
import Derived.Test.YtcnimimffiiimaaGreatDoorPT2d
import Derived.Test.YtcnimimffiiimaaGreatDoorPT2e
set_option linter.all false
namespace Go.Proofs.YtcnimimffiiimaaGreatDoor.TT
open Go
set_option maxRecDepth 100000
def Wv:List MemPlace:=pl0++(pl1++(pl2++(pl3++(pl4++(pl6++(pl7++(pl8)))))))
theorem Ww (os:Os)(a:Tape):∃v w,runN Tryz.prog 96 (Machine.entering Tryz.prog (World.unlaid Tryz.prog os) a (varsId Tryz.prog) ⟨#[],#[],[]⟩)=.ended (.done v) w∧DataW.laidRun Tryz.prog w.memory 8 (([("strconv.ErrSyntax",Rows.laid_strconv_ErrSyntax),("strconv.ErrRange",Rows.laid_strconv_ErrRange),("internal/strconv.uint64pow10",Rows.laid_internal_strconv_uint64pow10),("math/bits.deBruijn32tab",Rows.laid_math_bits_deBruijn32tab),("math/bits.deBruijn64tab",Rows.laid_math_bits_deBruijn64tab),("unicode/utf8.acceptRanges",Rows.laid_unicode_utf8_acceptRanges),("strings.asciiSpace",Rows.laid_strings_asciiSpace),("unicode.White_Space",Rows.laid_unicode_White_Space)]:List (String×DataW Unit)).map (·.1))=some ([("strconv.ErrSyntax",Rows.laid_strconv_ErrSyntax),("strconv.ErrRange",Rows.laid_strconv_ErrRange),("internal/strconv.uint64pow10",Rows.laid_internal_strconv_uint64pow10),("math/bits.deBruijn32tab",Rows.laid_math_bits_deBruijn32tab),("math/bits.deBruijn64tab",Rows.laid_math_bits_deBruijn64tab),("unicode/utf8.acceptRanges",Rows.laid_unicode_utf8_acceptRanges),("strings.asciiSpace",Rows.laid_strings_asciiSpace),("unicode.White_Space",Rows.laid_unicode_White_Space)],Wv)∧laidRowsB Tryz.prog w.memory Wv=true:=by obtain⟨v,w,b,c⟩:=Ef (rd0 os a);obtain⟨c,d⟩:=iL c;obtain⟨l,e⟩:=iL (nD (rd1 os a) b);obtain⟨m,f⟩:=iL (nD (rd2 os a) b);obtain⟨n,g⟩:=iL (nD (rd3 os a) b);obtain⟨o,h⟩:=iL (nD (rd4 os a) b);obtain⟨p,i⟩:=iL (nD (rd6 os a) b);obtain⟨q,j⟩:=iL (nD (rd7 os a) b);obtain⟨r,k⟩:=iL (nD (rd8 os a) b);refine⟨v,w,b,dS c (dS l (dS m (dS n (dS o (dS p (dS q r)))))),?_⟩;unfold laidRowsB at *;unfold Wv;simp only [List.all_append,d,e,f,g,h,i,j,k,Bool.and_self]
theorem ZI:nodupBits 257 Wv 0=true:=by kernel_rfl
theorem ain:Tryz.prog.kindOfLater "strconv.ErrSyntax"=some .sentinel:=by kernel_rfl
theorem aio:Tryz.prog.kindOfLater "strconv.ErrRange"=some .sentinel:=by kernel_rfl
theorem aip:Tryz.prog.kindOfLater "internal/strconv.uint64pow10"=some .data:=by kernel_rfl
theorem aiq:Tryz.prog.kindOfLater "math/bits.deBruijn32tab"=some .data:=by kernel_rfl
theorem air:Tryz.prog.kindOfLater "math/bits.deBruijn64tab"=some .data:=by kernel_rfl
theorem ais:Tryz.prog.kindOfLater "unicode/utf8.acceptRanges"=some .data:=by kernel_rfl
theorem ait:Tryz.prog.kindOfLater "strings.asciiSpace"=some .data:=by kernel_rfl
theorem aiu:Tryz.prog.kindOfLater "unicode.White_Space"=some .listed:=by kernel_rfl
theorem ap6:Tryz.prog.laidByTextLater [("strconv.ErrSyntax",Rows.laid_strconv_ErrSyntax),("strconv.ErrRange",Rows.laid_strconv_ErrRange),("internal/strconv.uint64pow10",Rows.laid_internal_strconv_uint64pow10),("math/bits.deBruijn32tab",Rows.laid_math_bits_deBruijn32tab),("math/bits.deBruijn64tab",Rows.laid_math_bits_deBruijn64tab),("unicode/utf8.acceptRanges",Rows.laid_unicode_utf8_acceptRanges),("strings.asciiSpace",Rows.laid_strings_asciiSpace),("unicode.White_Space",Rows.laid_unicode_White_Space)] [.sentinel,.sentinel,.data,.data,.data,.data,.data,.listed] true:=
 Sj 96 8 257 Wv ail adr ZG (by simp only [List.map_cons,List.map_nil,ain,aio,aip,aiq,air,ais,ait,aiu]) ZH Wu (by kernel_rfl) Ww ZI
theorem Sk:Tryz.pinned.checked.prog.pinnedFits "unicode/utf8.first"=true:=by kernel_rfl
theorem Mt:Tryz.pinned.checked.prog.headLifts.contains "ownunsafe"=false:=by kernel_rfl
theorem aiv:Tryz.pinned.checked.prog.listedFits [("strconv.ErrSyntax",Rows.laid_strconv_ErrSyntax),("strconv.ErrRange",Rows.laid_strconv_ErrRange),("internal/strconv.uint64pow10",Rows.laid_internal_strconv_uint64pow10),("math/bits.deBruijn32tab",Rows.laid_math_bits_deBruijn32tab),("math/bits.deBruijn64tab",Rows.laid_math_bits_deBruijn64tab),("unicode/utf8.first",Rows.laid_unicode_utf8_first),("unicode/utf8.acceptRanges",Rows.laid_unicode_utf8_acceptRanges),("strings.asciiSpace",Rows.laid_strings_asciiSpace),("unicode.White_Space",Rows.laid_unicode_White_Space)]=true:=by
 unfold Program.listedFits;rw [Mt]
 kernel_rfl
end Go.Proofs.YtcnimimffiiimaaGreatDoor.TT
