/- The tie of what the row lists; no condition. -/
import Derived.Test.YtfnlnpllpfhhnaaGreatDoorQT2a
import Derived.Test.YtfnlnpllpfhhnaaGreatDoorQT2b
import Derived.Test.YtfnlnpllpfhhnaaGreatDoorQT2c
import Derived.Test.YtfnlnpllpfhhnaaGreatDoorQT2d
import Derived.Test.YtfnlnpllpfhhnaaGreatDoorQT2e
set_option linter.all false
namespace Go.Proofs.YtfnlnpllpfhhnaaGreatDoor.TT
open Go
set_option maxRecDepth 100000
def acd:List MemPlace:=pl0++(pl1++(pl2++(pl3++(pl4++(pl6++(pl7++(pl8)))))))
theorem ace (os:Os)(a:Tape):∃v w,runN Tryz.prog 96 (Machine.entering Tryz.prog (World.unlaid Tryz.prog os) a (varsId Tryz.prog) ⟨#[],#[],[]⟩)=.ended (.done v) w∧DataW.laidRun Tryz.prog w.memory 8 (([("internal/strconv.uint64pow10",Rows.laid_internal_strconv_uint64pow10),("math/bits.deBruijn32tab",Rows.laid_math_bits_deBruijn32tab),("math/bits.deBruijn64tab",Rows.laid_math_bits_deBruijn64tab),("strconv.ErrSyntax",Rows.laid_strconv_ErrSyntax),("strconv.ErrRange",Rows.laid_strconv_ErrRange),("unicode/utf8.acceptRanges",Rows.laid_unicode_utf8_acceptRanges),("strings.asciiSpace",Rows.laid_strings_asciiSpace),("unicode.White_Space",Rows.laid_unicode_White_Space)]:List (String×DataW Unit)).map (·.1))=some ([("internal/strconv.uint64pow10",Rows.laid_internal_strconv_uint64pow10),("math/bits.deBruijn32tab",Rows.laid_math_bits_deBruijn32tab),("math/bits.deBruijn64tab",Rows.laid_math_bits_deBruijn64tab),("strconv.ErrSyntax",Rows.laid_strconv_ErrSyntax),("strconv.ErrRange",Rows.laid_strconv_ErrRange),("unicode/utf8.acceptRanges",Rows.laid_unicode_utf8_acceptRanges),("strings.asciiSpace",Rows.laid_strings_asciiSpace),("unicode.White_Space",Rows.laid_unicode_White_Space)],acd)∧laidRowsB Tryz.prog w.memory acd=true:=by obtain⟨v,w,b,c⟩:=KV (rd0 os a);obtain⟨c,d⟩:=mP c;obtain⟨l,e⟩:=mP (rZ (rd1 os a) b);obtain⟨m,f⟩:=mP (rZ (rd2 os a) b);obtain⟨n,g⟩:=mP (rZ (rd3 os a) b);obtain⟨o,h⟩:=mP (rZ (rd4 os a) b);obtain⟨p,i⟩:=mP (rZ (rd6 os a) b);obtain⟨q,j⟩:=mP (rZ (rd7 os a) b);obtain⟨r,k⟩:=mP (rZ (rd8 os a) b);refine⟨v,w,b,jv c (jv l (jv m (jv n (jv o (jv p (jv q r)))))),?_⟩;unfold laidRowsB at *;unfold acd;simp only [List.all_append,d,e,f,g,h,i,j,k,Bool.and_self]
theorem ag8:nodupBits 257 acd 0=true:=by kernel_rfl
theorem ayr:Tryz.prog.kindOfLater "internal/strconv.uint64pow10"=some .data:=by kernel_rfl
theorem ays:Tryz.prog.kindOfLater "math/bits.deBruijn32tab"=some .data:=by kernel_rfl
theorem ayt:Tryz.prog.kindOfLater "math/bits.deBruijn64tab"=some .data:=by kernel_rfl
theorem ayu:Tryz.prog.kindOfLater "strconv.ErrSyntax"=some .sentinel:=by kernel_rfl
theorem ayv:Tryz.prog.kindOfLater "strconv.ErrRange"=some .sentinel:=by kernel_rfl
theorem ayw:Tryz.prog.kindOfLater "unicode/utf8.acceptRanges"=some .data:=by kernel_rfl
theorem ayx:Tryz.prog.kindOfLater "strings.asciiSpace"=some .data:=by kernel_rfl
theorem ayy:Tryz.prog.kindOfLater "unicode.White_Space"=some .listed:=by kernel_rfl
theorem aDR:Tryz.prog.laidByTextLater [("internal/strconv.uint64pow10",Rows.laid_internal_strconv_uint64pow10),("math/bits.deBruijn32tab",Rows.laid_math_bits_deBruijn32tab),("math/bits.deBruijn64tab",Rows.laid_math_bits_deBruijn64tab),("strconv.ErrSyntax",Rows.laid_strconv_ErrSyntax),("strconv.ErrRange",Rows.laid_strconv_ErrRange),("unicode/utf8.acceptRanges",Rows.laid_unicode_utf8_acceptRanges),("strings.asciiSpace",Rows.laid_strings_asciiSpace),("unicode.White_Space",Rows.laid_unicode_White_Space)] [.data,.data,.data,.sentinel,.sentinel,.data,.data,.listed] true:=
 YD 96 8 257 acd ayq alH ag6 (by simp only [List.map_cons,List.map_nil,ayr,ays,ayt,ayu,ayv,ayw,ayx,ayy]) ag7 ac9 (by kernel_rfl) ace ag8
theorem YE:Tryz.pinned.checked.prog.pinnedFits "unicode/utf8.first"=true:=by kernel_rfl
theorem SH:Tryz.pinned.checked.prog.headLifts.contains "ownunsafe"=false:=by kernel_rfl
theorem ayz:Tryz.pinned.checked.prog.listedFits [("internal/strconv.uint64pow10",Rows.laid_internal_strconv_uint64pow10),("math/bits.deBruijn32tab",Rows.laid_math_bits_deBruijn32tab),("math/bits.deBruijn64tab",Rows.laid_math_bits_deBruijn64tab),("strconv.ErrSyntax",Rows.laid_strconv_ErrSyntax),("strconv.ErrRange",Rows.laid_strconv_ErrRange),("unicode/utf8.first",Rows.laid_unicode_utf8_first),("unicode/utf8.acceptRanges",Rows.laid_unicode_utf8_acceptRanges),("strings.asciiSpace",Rows.laid_strings_asciiSpace),("unicode.White_Space",Rows.laid_unicode_White_Space)]=true:=by
 unfold Program.listedFits;rw [SH]
 kernel_rfl
end Go.Proofs.YtfnlnpllpfhhnaaGreatDoor.TT
