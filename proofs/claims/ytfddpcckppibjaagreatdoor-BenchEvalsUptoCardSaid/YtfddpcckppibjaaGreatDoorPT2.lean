/- The tie of what the row lists; no condition. -/
import Derived.Test.YtfddpcckppibjaaGreatDoorPT2a
import Derived.Test.YtfddpcckppibjaaGreatDoorPT2b
import Derived.Test.YtfddpcckppibjaaGreatDoorPT2c
import Derived.Test.YtfddpcckppibjaaGreatDoorPT2d
import Derived.Test.YtfddpcckppibjaaGreatDoorPT2e
set_option linter.all false
namespace Go.Proofs.YtfddpcckppibjaaGreatDoor.TT
open Go
set_option maxRecDepth 100000
def Ww:List MemPlace:=pl0++(pl1++(pl2++(pl3++(pl4++(pl6++(pl7++(pl8)))))))
theorem Wx (b:Os)(a:Tape):∃v w,runN Tryz.prog 96 (Machine.entering Tryz.prog (World.unlaid Tryz.prog b) a (varsId Tryz.prog) ⟨#[],#[],[]⟩)=.ended (.done v) w∧DataW.laidRun Tryz.prog w.memory 8 (([("strconv.ErrSyntax",Rows.laid_strconv_ErrSyntax),("strconv.ErrRange",Rows.laid_strconv_ErrRange),("internal/strconv.uint64pow10",Rows.laid_internal_strconv_uint64pow10),("math/bits.deBruijn32tab",Rows.laid_math_bits_deBruijn32tab),("math/bits.deBruijn64tab",Rows.laid_math_bits_deBruijn64tab),("unicode/utf8.acceptRanges",Rows.laid_unicode_utf8_acceptRanges),("strings.asciiSpace",Rows.laid_strings_asciiSpace),("unicode.White_Space",Rows.laid_unicode_White_Space)]:List (String×DataW Unit)).map (·.1))=some ([("strconv.ErrSyntax",Rows.laid_strconv_ErrSyntax),("strconv.ErrRange",Rows.laid_strconv_ErrRange),("internal/strconv.uint64pow10",Rows.laid_internal_strconv_uint64pow10),("math/bits.deBruijn32tab",Rows.laid_math_bits_deBruijn32tab),("math/bits.deBruijn64tab",Rows.laid_math_bits_deBruijn64tab),("unicode/utf8.acceptRanges",Rows.laid_unicode_utf8_acceptRanges),("strings.asciiSpace",Rows.laid_strings_asciiSpace),("unicode.White_Space",Rows.laid_unicode_White_Space)],Ww)∧laidRowsB Tryz.prog w.memory Ww=true:=by obtain⟨v,w,c,d⟩:=Ef (rd0 b a);obtain⟨d,e⟩:=iL d;obtain⟨m,f⟩:=iL (nE (rd1 b a) c);obtain⟨n,g⟩:=iL (nE (rd2 b a) c);obtain⟨o,h⟩:=iL (nE (rd3 b a) c);obtain⟨p,i⟩:=iL (nE (rd4 b a) c);obtain⟨q,j⟩:=iL (nE (rd6 b a) c);obtain⟨r,k⟩:=iL (nE (rd7 b a) c);obtain⟨s,l⟩:=iL (nE (rd8 b a) c);refine⟨v,w,c,dS d (dS m (dS n (dS o (dS p (dS q (dS r s)))))),?_⟩;unfold laidRowsB at *;unfold Ww;simp only [List.all_append,e,f,g,h,i,j,k,l,Bool.and_self]
theorem ZJ:nodupBits 257 Ww 0=true:=by kernel_rfl
theorem aio:Tryz.prog.kindOfLater "strconv.ErrSyntax"=some .sentinel:=by kernel_rfl
theorem aip:Tryz.prog.kindOfLater "strconv.ErrRange"=some .sentinel:=by kernel_rfl
theorem aiq:Tryz.prog.kindOfLater "internal/strconv.uint64pow10"=some .data:=by kernel_rfl
theorem air:Tryz.prog.kindOfLater "math/bits.deBruijn32tab"=some .data:=by kernel_rfl
theorem ais:Tryz.prog.kindOfLater "math/bits.deBruijn64tab"=some .data:=by kernel_rfl
theorem ait:Tryz.prog.kindOfLater "unicode/utf8.acceptRanges"=some .data:=by kernel_rfl
theorem aiu:Tryz.prog.kindOfLater "strings.asciiSpace"=some .data:=by kernel_rfl
theorem aiv:Tryz.prog.kindOfLater "unicode.White_Space"=some .listed:=by kernel_rfl
theorem ap7:Tryz.prog.laidByTextLater [("strconv.ErrSyntax",Rows.laid_strconv_ErrSyntax),("strconv.ErrRange",Rows.laid_strconv_ErrRange),("internal/strconv.uint64pow10",Rows.laid_internal_strconv_uint64pow10),("math/bits.deBruijn32tab",Rows.laid_math_bits_deBruijn32tab),("math/bits.deBruijn64tab",Rows.laid_math_bits_deBruijn64tab),("unicode/utf8.acceptRanges",Rows.laid_unicode_utf8_acceptRanges),("strings.asciiSpace",Rows.laid_strings_asciiSpace),("unicode.White_Space",Rows.laid_unicode_White_Space)] [.sentinel,.sentinel,.data,.data,.data,.data,.data,.listed] true:=
 Sk 96 8 257 Ww ain ads ZH (by simp only [List.map_cons,List.map_nil,aio,aip,aiq,air,ais,ait,aiu,aiv]) ZI Wv (by kernel_rfl) Wx ZJ
theorem Sl:Tryz.pinned.checked.prog.pinnedFits "unicode/utf8.first"=true:=by kernel_rfl
theorem Mt:Tryz.pinned.checked.prog.headLifts.contains "ownunsafe"=false:=by kernel_rfl
theorem aiw:Tryz.pinned.checked.prog.listedFits [("strconv.ErrSyntax",Rows.laid_strconv_ErrSyntax),("strconv.ErrRange",Rows.laid_strconv_ErrRange),("internal/strconv.uint64pow10",Rows.laid_internal_strconv_uint64pow10),("math/bits.deBruijn32tab",Rows.laid_math_bits_deBruijn32tab),("math/bits.deBruijn64tab",Rows.laid_math_bits_deBruijn64tab),("unicode/utf8.first",Rows.laid_unicode_utf8_first),("unicode/utf8.acceptRanges",Rows.laid_unicode_utf8_acceptRanges),("strings.asciiSpace",Rows.laid_strings_asciiSpace),("unicode.White_Space",Rows.laid_unicode_White_Space)]=true:=by
 unfold Program.listedFits;rw [Mt]
 kernel_rfl
end Go.Proofs.YtfddpcckppibjaaGreatDoor.TT
