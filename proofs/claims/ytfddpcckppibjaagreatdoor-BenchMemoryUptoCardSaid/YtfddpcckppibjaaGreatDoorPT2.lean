/- The tie of what the row lists; no condition. -/
import Derived.Test.YtfddpcckppibjaaGreatDoorPT2a
import Derived.Test.YtfddpcckppibjaaGreatDoorPT2b
import Derived.Test.YtfddpcckppibjaaGreatDoorPT2c
import Derived.Test.YtfddpcckppibjaaGreatDoorPT2d
import Derived.Test.YtfddpcckppibjaaGreatDoorPT2e
set_option linter.all false
namespace Go.Proofs.YtfddpcckppibjaaGreatDoor.TT
open Go
set_option maxRecDepth 100000
def Yv:List MemPlace:=pl2++(pl3++(pl4++(pl0++(pl1++(pl6++(pl7++(pl8)))))))
theorem Yw (b:Os)(a:Tape):∃v w,runN Tryz.prog 96 (Machine.entering Tryz.prog (World.unlaid Tryz.prog b) a (varsId Tryz.prog) ⟨#[],#[],[]⟩)=.ended (.done v) w∧DataW.laidRun Tryz.prog w.memory 8 (([("internal/strconv.uint64pow10",Rows.laid_internal_strconv_uint64pow10),("math/bits.deBruijn32tab",Rows.laid_math_bits_deBruijn32tab),("math/bits.deBruijn64tab",Rows.laid_math_bits_deBruijn64tab),("strconv.ErrSyntax",Rows.laid_strconv_ErrSyntax),("strconv.ErrRange",Rows.laid_strconv_ErrRange),("unicode/utf8.acceptRanges",Rows.laid_unicode_utf8_acceptRanges),("strings.asciiSpace",Rows.laid_strings_asciiSpace),("unicode.White_Space",Rows.laid_unicode_White_Space)]:List (String×DataW Unit)).map (·.1))=some ([("internal/strconv.uint64pow10",Rows.laid_internal_strconv_uint64pow10),("math/bits.deBruijn32tab",Rows.laid_math_bits_deBruijn32tab),("math/bits.deBruijn64tab",Rows.laid_math_bits_deBruijn64tab),("strconv.ErrSyntax",Rows.laid_strconv_ErrSyntax),("strconv.ErrRange",Rows.laid_strconv_ErrRange),("unicode/utf8.acceptRanges",Rows.laid_unicode_utf8_acceptRanges),("strings.asciiSpace",Rows.laid_strings_asciiSpace),("unicode.White_Space",Rows.laid_unicode_White_Space)],Yv)∧laidRowsB Tryz.prog w.memory Yv=true:=by obtain⟨v,w,c,d⟩:=FD (rd0 b a);obtain⟨d,e⟩:=jN d;obtain⟨n,g⟩:=jN (pq (rd2 b a) c);obtain⟨o,h⟩:=jN (pq (rd3 b a) c);obtain⟨p,i⟩:=jN (pq (rd4 b a) c);obtain⟨m,f⟩:=jN (pq (rd1 b a) c);obtain⟨q,j⟩:=jN (pq (rd6 b a) c);obtain⟨r,k⟩:=jN (pq (rd7 b a) c);obtain⟨s,l⟩:=jN (pq (rd8 b a) c);refine⟨v,w,c,fI n (fI o (fI p (fI d (fI m (fI q (fI r s)))))),?_⟩;unfold laidRowsB at *;unfold Yv;simp only [List.all_append,g,h,i,e,f,j,k,l,Bool.and_self]
theorem abC:nodupBits 257 Yv 0=true:=by kernel_rfl
theorem ajS:Tryz.prog.kindOfLater "internal/strconv.uint64pow10"=some .data:=by kernel_rfl
theorem ajT:Tryz.prog.kindOfLater "math/bits.deBruijn32tab"=some .data:=by kernel_rfl
theorem ajU:Tryz.prog.kindOfLater "math/bits.deBruijn64tab"=some .data:=by kernel_rfl
theorem ajV:Tryz.prog.kindOfLater "strconv.ErrSyntax"=some .sentinel:=by kernel_rfl
theorem ajW:Tryz.prog.kindOfLater "strconv.ErrRange"=some .sentinel:=by kernel_rfl
theorem ajX:Tryz.prog.kindOfLater "unicode/utf8.acceptRanges"=some .data:=by kernel_rfl
theorem ajY:Tryz.prog.kindOfLater "strings.asciiSpace"=some .data:=by kernel_rfl
theorem ajZ:Tryz.prog.kindOfLater "unicode.White_Space"=some .listed:=by kernel_rfl
theorem apz:Tryz.prog.laidByTextLater [("internal/strconv.uint64pow10",Rows.laid_internal_strconv_uint64pow10),("math/bits.deBruijn32tab",Rows.laid_math_bits_deBruijn32tab),("math/bits.deBruijn64tab",Rows.laid_math_bits_deBruijn64tab),("strconv.ErrSyntax",Rows.laid_strconv_ErrSyntax),("strconv.ErrRange",Rows.laid_strconv_ErrRange),("unicode/utf8.acceptRanges",Rows.laid_unicode_utf8_acceptRanges),("strings.asciiSpace",Rows.laid_strings_asciiSpace),("unicode.White_Space",Rows.laid_unicode_White_Space)] [.data,.data,.data,.sentinel,.sentinel,.data,.data,.listed] true:=
 Uw 96 8 257 Yv ajR afo abA (by simp only [List.map_cons,List.map_nil,ajV,ajW,ajS,ajT,ajU,ajX,ajY,ajZ]) abB Yu (by kernel_rfl) Yw abC
theorem Ux:Tryz.pinned.checked.prog.pinnedFits "unicode/utf8.first"=true:=by kernel_rfl
theorem Oj:Tryz.pinned.checked.prog.headLifts.contains "ownunsafe"=false:=by kernel_rfl
theorem ak0:Tryz.pinned.checked.prog.listedFits [("internal/strconv.uint64pow10",Rows.laid_internal_strconv_uint64pow10),("math/bits.deBruijn32tab",Rows.laid_math_bits_deBruijn32tab),("math/bits.deBruijn64tab",Rows.laid_math_bits_deBruijn64tab),("strconv.ErrSyntax",Rows.laid_strconv_ErrSyntax),("strconv.ErrRange",Rows.laid_strconv_ErrRange),("unicode/utf8.first",Rows.laid_unicode_utf8_first),("unicode/utf8.acceptRanges",Rows.laid_unicode_utf8_acceptRanges),("strings.asciiSpace",Rows.laid_strings_asciiSpace),("unicode.White_Space",Rows.laid_unicode_White_Space)]=true:=by
 unfold Program.listedFits;rw [Oj]
 kernel_rfl
end Go.Proofs.YtfddpcckppibjaaGreatDoor.TT
