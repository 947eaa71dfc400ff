/- The tie of what the row lists; no condition. -/
import Derived.Test.YtpmfjipaheolgaaGreatDoorPT2a
import Derived.Test.YtpmfjipaheolgaaGreatDoorPT2b
import Derived.Test.YtpmfjipaheolgaaGreatDoorPT2c
import Derived.Test.YtpmfjipaheolgaaGreatDoorPT2d
import Derived.Test.YtpmfjipaheolgaaGreatDoorPT2e
set_option linter.all false
namespace Go.Proofs.YtpmfjipaheolgaaGreatDoor.TT
open Go
set_option maxRecDepth 100000
def ad3:List MemPlace:=pl2++(pl0++(pl1++(pl5++(pl4++(pl3++(pl7++(pl6)))))))
theorem ad4 (os:Os)(a:Tape):∃v w,runN Tryz.prog 96 (Machine.entering Tryz.prog (World.unlaid Tryz.prog os) a (varsId Tryz.prog) ⟨#[],#[],[]⟩)=.ended (.done v) w∧DataW.laidRun Tryz.prog w.memory 8 (([("internal/strconv.uint64pow10",Rows.laid_internal_strconv_uint64pow10),("math/bits.deBruijn32tab",Rows.laid_math_bits_deBruijn32tab),("math/bits.deBruijn64tab",Rows.laid_math_bits_deBruijn64tab),("strconv.ErrSyntax",Rows.laid_strconv_ErrSyntax),("strconv.ErrRange",Rows.laid_strconv_ErrRange),("unicode/utf8.acceptRanges",Rows.laid_unicode_utf8_acceptRanges),("strings.asciiSpace",Rows.laid_strings_asciiSpace),("unicode.White_Space",Rows.laid_unicode_White_Space)]:List (String×DataW Unit)).map (·.1))=some ([("internal/strconv.uint64pow10",Rows.laid_internal_strconv_uint64pow10),("math/bits.deBruijn32tab",Rows.laid_math_bits_deBruijn32tab),("math/bits.deBruijn64tab",Rows.laid_math_bits_deBruijn64tab),("strconv.ErrSyntax",Rows.laid_strconv_ErrSyntax),("strconv.ErrRange",Rows.laid_strconv_ErrRange),("unicode/utf8.acceptRanges",Rows.laid_unicode_utf8_acceptRanges),("strings.asciiSpace",Rows.laid_strings_asciiSpace),("unicode.White_Space",Rows.laid_unicode_White_Space)],ad3)∧laidRowsB Tryz.prog w.memory ad3=true:=by obtain⟨v,w,b,c⟩:=Lj (rd0 os a);obtain⟨c,d⟩:=mU c;obtain⟨l,e⟩:=mU (sI (rd1 os a) b);obtain⟨m,f⟩:=mU (sI (rd2 os a) b);obtain⟨n,g⟩:=mU (sI (rd3 os a) b);obtain⟨o,h⟩:=mU (sI (rd4 os a) b);obtain⟨p,i⟩:=mU (sI (rd5 os a) b);obtain⟨q,j⟩:=mU (sI (rd6 os a) b);obtain⟨r,k⟩:=mU (sI (rd7 os a) b);refine⟨v,w,b,jB m (jB c (jB l (jB p (jB o (jB n (jB r q)))))),?_⟩;unfold laidRowsB at *;unfold ad3;simp only [List.all_append,d,e,f,g,h,i,j,k,Bool.and_self]
theorem agl:nodupBits 257 ad3 0=true:=by kernel_rfl
theorem arA:Tryz.prog.kindOfLater "math/bits.deBruijn32tab"=some .data:=by kernel_rfl
theorem arB:Tryz.prog.kindOfLater "math/bits.deBruijn64tab"=some .data:=by kernel_rfl
theorem arC:Tryz.prog.kindOfLater "internal/strconv.uint64pow10"=some .data:=by kernel_rfl
theorem arD:Tryz.prog.kindOfLater "unicode/utf8.acceptRanges"=some .data:=by kernel_rfl
theorem arE:Tryz.prog.kindOfLater "strconv.ErrRange"=some .sentinel:=by kernel_rfl
theorem arF:Tryz.prog.kindOfLater "strconv.ErrSyntax"=some .sentinel:=by kernel_rfl
theorem arG:Tryz.prog.kindOfLater "unicode.White_Space"=some .listed:=by kernel_rfl
theorem arH:Tryz.prog.kindOfLater "strings.asciiSpace"=some .data:=by kernel_rfl
theorem avL:Tryz.prog.laidByTextLater [("internal/strconv.uint64pow10",Rows.laid_internal_strconv_uint64pow10),("math/bits.deBruijn32tab",Rows.laid_math_bits_deBruijn32tab),("math/bits.deBruijn64tab",Rows.laid_math_bits_deBruijn64tab),("strconv.ErrSyntax",Rows.laid_strconv_ErrSyntax),("strconv.ErrRange",Rows.laid_strconv_ErrRange),("unicode/utf8.acceptRanges",Rows.laid_unicode_utf8_acceptRanges),("strings.asciiSpace",Rows.laid_strings_asciiSpace),("unicode.White_Space",Rows.laid_unicode_White_Space)] [.data,.data,.data,.sentinel,.sentinel,.data,.data,.listed] true:=
 ZM 96 8 257 ad3 arz ajg agj (by simp only[List.map_cons,List.map_nil,arA,arB,arC,arD,arE,arF,arG,arH]) agk ad2 (by kernel_rfl) ad4 agl
theorem ZN:Tryz.pinned.checked.prog.pinnedFits "unicode/utf8.first"=true:=by kernel_rfl
theorem TK:Tryz.pinned.checked.prog.headLifts.contains "ownunsafe"=false:=by kernel_rfl
theorem arI:Tryz.pinned.checked.prog.listedFits [("internal/strconv.uint64pow10",Rows.laid_internal_strconv_uint64pow10),("math/bits.deBruijn32tab",Rows.laid_math_bits_deBruijn32tab),("math/bits.deBruijn64tab",Rows.laid_math_bits_deBruijn64tab),("strconv.ErrSyntax",Rows.laid_strconv_ErrSyntax),("strconv.ErrRange",Rows.laid_strconv_ErrRange),("unicode/utf8.first",Rows.laid_unicode_utf8_first),("unicode/utf8.acceptRanges",Rows.laid_unicode_utf8_acceptRanges),("strings.asciiSpace",Rows.laid_strings_asciiSpace),("unicode.White_Space",Rows.laid_unicode_White_Space)]=true:=by
 unfold Program.listedFits;rw[TK]
 kernel_rfl
end Go.Proofs.YtpmfjipaheolgaaGreatDoor.TT
