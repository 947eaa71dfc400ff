/- The tie of what the row lists; no condition. -/
import Derived.Test.YtfnlnpllpfhhnaaGreatDoorPT2a
import Derived.Test.YtfnlnpllpfhhnaaGreatDoorPT2b
import Derived.Test.YtfnlnpllpfhhnaaGreatDoorPT2c
import Derived.Test.YtfnlnpllpfhhnaaGreatDoorPT2d
import Derived.Test.YtfnlnpllpfhhnaaGreatDoorPT2e
set_option linter.all false
namespace Go.Proofs.YtfnlnpllpfhhnaaGreatDoor.TT
open Go
set_option maxRecDepth 100000
def acW:List MemPlace:=pl0++(pl1++(pl2++(pl3++(pl4++(pl6++(pl7++(pl8)))))))
theorem acX (os:Os)(a:Tape):∃v w,runN Tryz.prog 96 (Machine.entering Tryz.prog (World.unlaid Tryz.prog os) a (varsId Tryz.prog) ⟨#[],#[],[]⟩)=.ended (.done v) w∧DataW.laidRun Tryz.prog w.memory 8 (([("internal/strconv.uint64pow10",Rows.laid_internal_strconv_uint64pow10),("math/bits.deBruijn32tab",Rows.laid_math_bits_deBruijn32tab),("math/bits.deBruijn64tab",Rows.laid_math_bits_deBruijn64tab),("strconv.ErrSyntax",Rows.laid_strconv_ErrSyntax),("strconv.ErrRange",Rows.laid_strconv_ErrRange),("unicode/utf8.acceptRanges",Rows.laid_unicode_utf8_acceptRanges),("strings.asciiSpace",Rows.laid_strings_asciiSpace),("unicode.White_Space",Rows.laid_unicode_White_Space)]:List (String×DataW Unit)).map (·.1))=some ([("internal/strconv.uint64pow10",Rows.laid_internal_strconv_uint64pow10),("math/bits.deBruijn32tab",Rows.laid_math_bits_deBruijn32tab),("math/bits.deBruijn64tab",Rows.laid_math_bits_deBruijn64tab),("strconv.ErrSyntax",Rows.laid_strconv_ErrSyntax),("strconv.ErrRange",Rows.laid_strconv_ErrRange),("unicode/utf8.acceptRanges",Rows.laid_unicode_utf8_acceptRanges),("strings.asciiSpace",Rows.laid_strings_asciiSpace),("unicode.White_Space",Rows.laid_unicode_White_Space)],acW)∧laidRowsB Tryz.prog w.memory acW=true:=by obtain⟨v,w,b,c⟩:=JH (rd0 os a);obtain⟨c,d⟩:=kR c;obtain⟨l,e⟩:=kR (qB (rd1 os a) b);obtain⟨m,f⟩:=kR (qB (rd2 os a) b);obtain⟨n,g⟩:=kR (qB (rd3 os a) b);obtain⟨o,h⟩:=kR (qB (rd4 os a) b);obtain⟨p,i⟩:=kR (qB (rd6 os a) b);obtain⟨q,j⟩:=kR (qB (rd7 os a) b);obtain⟨r,k⟩:=kR (qB (rd8 os a) b);refine⟨v,w,b,iG c (iG l (iG m (iG n (iG o (iG p (iG q r)))))),?_⟩;unfold laidRowsB at *;unfold acW;simp only [List.all_append,d,e,f,g,h,i,j,k,Bool.and_self]
theorem agu:nodupBits 257 acW 0=true:=by kernel_rfl
theorem ayg:Tryz.prog.kindOfLater "internal/strconv.uint64pow10"=some .data:=by kernel_rfl
theorem ayh:Tryz.prog.kindOfLater "math/bits.deBruijn32tab"=some .data:=by kernel_rfl
theorem ayi:Tryz.prog.kindOfLater "math/bits.deBruijn64tab"=some .data:=by kernel_rfl
theorem ayj:Tryz.prog.kindOfLater "strconv.ErrSyntax"=some .sentinel:=by kernel_rfl
theorem ayk:Tryz.prog.kindOfLater "strconv.ErrRange"=some .sentinel:=by kernel_rfl
theorem ayl:Tryz.prog.kindOfLater "unicode/utf8.acceptRanges"=some .data:=by kernel_rfl
theorem aym:Tryz.prog.kindOfLater "strings.asciiSpace"=some .data:=by kernel_rfl
theorem ayn:Tryz.prog.kindOfLater "unicode.White_Space"=some .listed:=by kernel_rfl
theorem aEB:Tryz.prog.laidByTextLater [("internal/strconv.uint64pow10",Rows.laid_internal_strconv_uint64pow10),("math/bits.deBruijn32tab",Rows.laid_math_bits_deBruijn32tab),("math/bits.deBruijn64tab",Rows.laid_math_bits_deBruijn64tab),("strconv.ErrSyntax",Rows.laid_strconv_ErrSyntax),("strconv.ErrRange",Rows.laid_strconv_ErrRange),("unicode/utf8.acceptRanges",Rows.laid_unicode_utf8_acceptRanges),("strings.asciiSpace",Rows.laid_strings_asciiSpace),("unicode.White_Space",Rows.laid_unicode_White_Space)] [.data,.data,.data,.sentinel,.sentinel,.data,.data,.listed] true:=
 Xt 96 8 257 acW ayf alS ags (by simp only [List.map_cons,List.map_nil,ayg,ayh,ayi,ayj,ayk,ayl,aym,ayn]) agt acV (by kernel_rfl) acX agu
theorem Xu:Tryz.pinned.checked.prog.pinnedFits "unicode/utf8.first"=true:=by kernel_rfl
theorem Rc:Tryz.pinned.checked.prog.headLifts.contains "ownunsafe"=false:=by kernel_rfl
theorem ayo:Tryz.pinned.checked.prog.listedFits [("internal/strconv.uint64pow10",Rows.laid_internal_strconv_uint64pow10),("math/bits.deBruijn32tab",Rows.laid_math_bits_deBruijn32tab),("math/bits.deBruijn64tab",Rows.laid_math_bits_deBruijn64tab),("strconv.ErrSyntax",Rows.laid_strconv_ErrSyntax),("strconv.ErrRange",Rows.laid_strconv_ErrRange),("unicode/utf8.first",Rows.laid_unicode_utf8_first),("unicode/utf8.acceptRanges",Rows.laid_unicode_utf8_acceptRanges),("strings.asciiSpace",Rows.laid_strings_asciiSpace),("unicode.White_Space",Rows.laid_unicode_White_Space)]=true:=by
 unfold Program.listedFits;rw [Rc]
 kernel_rfl
end Go.Proofs.YtfnlnpllpfhhnaaGreatDoor.TT
