/- The tie of what the row lists; no condition. -/
import Derived.Test.YtfddpcckppibjaaGreatDoorPT2a
import Derived.Test.YtfddpcckppibjaaGreatDoorPT2b
import Derived.Test.YtfddpcckppibjaaGreatDoorPT2c
import Derived.Test.YtfddpcckppibjaaGreatDoorPT2d
import Derived.Test.YtfddpcckppibjaaGreatDoorPT2e
set_option linter.all false
namespace Go.Proofs.YtfddpcckppibjaaGreatDoor.TT
open Go
set_option maxRecDepth 100000
def YW:List MemPlace:=pl0++(pl1++(pl2++(pl3++(pl4++(pl6++(pl7++(pl8)))))))
theorem YX (b:Os)(a:Tape):∃v w,runN Tryz.prog 96 (Machine.entering Tryz.prog (World.unlaid Tryz.prog b) a (varsId Tryz.prog) ⟨#[],#[],[]⟩)=.ended (.done v) w∧DataW.laidRun Tryz.prog w.memory 8 (([("strconv.ErrSyntax",Rows.laid_strconv_ErrSyntax),("strconv.ErrRange",Rows.laid_strconv_ErrRange),("internal/strconv.uint64pow10",Rows.laid_internal_strconv_uint64pow10),("math/bits.deBruijn32tab",Rows.laid_math_bits_deBruijn32tab),("math/bits.deBruijn64tab",Rows.laid_math_bits_deBruijn64tab),("unicode/utf8.acceptRanges",Rows.laid_unicode_utf8_acceptRanges),("strings.asciiSpace",Rows.laid_strings_asciiSpace),("unicode.White_Space",Rows.laid_unicode_White_Space)]:List (String×DataW Unit)).map (·.1))=some ([("strconv.ErrSyntax",Rows.laid_strconv_ErrSyntax),("strconv.ErrRange",Rows.laid_strconv_ErrRange),("internal/strconv.uint64pow10",Rows.laid_internal_strconv_uint64pow10),("math/bits.deBruijn32tab",Rows.laid_math_bits_deBruijn32tab),("math/bits.deBruijn64tab",Rows.laid_math_bits_deBruijn64tab),("unicode/utf8.acceptRanges",Rows.laid_unicode_utf8_acceptRanges),("strings.asciiSpace",Rows.laid_strings_asciiSpace),("unicode.White_Space",Rows.laid_unicode_White_Space)],YW)∧laidRowsB Tryz.prog w.memory YW=true:=by obtain⟨v,w,c,d⟩:=Gr (rd0 b a);obtain⟨d,e⟩:=jM d;obtain⟨m,f⟩:=jM (pE (rd1 b a) c);obtain⟨n,g⟩:=jM (pE (rd2 b a) c);obtain⟨o,h⟩:=jM (pE (rd3 b a) c);obtain⟨p,i⟩:=jM (pE (rd4 b a) c);obtain⟨q,j⟩:=jM (pE (rd6 b a) c);obtain⟨r,k⟩:=jM (pE (rd7 b a) c);obtain⟨s,l⟩:=jM (pE (rd8 b a) c);refine⟨v,w,c,fU d (fU m (fU n (fU o (fU p (fU q (fU r s)))))),?_⟩;unfold laidRowsB at *;unfold YW;simp only [List.all_append,e,f,g,h,i,j,k,l,Bool.and_self]
theorem ach:nodupBits 257 YW 0=true:=by kernel_rfl
theorem akM:Tryz.prog.kindOfLater "strconv.ErrSyntax"=some .sentinel:=by kernel_rfl
theorem akN:Tryz.prog.kindOfLater "strconv.ErrRange"=some .sentinel:=by kernel_rfl
theorem akO:Tryz.prog.kindOfLater "internal/strconv.uint64pow10"=some .data:=by kernel_rfl
theorem akP:Tryz.prog.kindOfLater "math/bits.deBruijn32tab"=some .data:=by kernel_rfl
theorem akQ:Tryz.prog.kindOfLater "math/bits.deBruijn64tab"=some .data:=by kernel_rfl
theorem akR:Tryz.prog.kindOfLater "unicode/utf8.acceptRanges"=some .data:=by kernel_rfl
theorem akS:Tryz.prog.kindOfLater "strings.asciiSpace"=some .data:=by kernel_rfl
theorem akT:Tryz.prog.kindOfLater "unicode.White_Space"=some .listed:=by kernel_rfl
theorem arG:Tryz.prog.laidByTextLater [("strconv.ErrSyntax",Rows.laid_strconv_ErrSyntax),("strconv.ErrRange",Rows.laid_strconv_ErrRange),("internal/strconv.uint64pow10",Rows.laid_internal_strconv_uint64pow10),("math/bits.deBruijn32tab",Rows.laid_math_bits_deBruijn32tab),("math/bits.deBruijn64tab",Rows.laid_math_bits_deBruijn64tab),("unicode/utf8.acceptRanges",Rows.laid_unicode_utf8_acceptRanges),("strings.asciiSpace",Rows.laid_strings_asciiSpace),("unicode.White_Space",Rows.laid_unicode_White_Space)] [.sentinel,.sentinel,.data,.data,.data,.data,.data,.listed] true:=
 Vr 96 8 257 YW akL ag9 acf (by simp only [List.map_cons,List.map_nil,akM,akN,akO,akP,akQ,akR,akS,akT]) acg YV (by kernel_rfl) YX ach
theorem Vs:Tryz.pinned.checked.prog.pinnedFits "unicode/utf8.first"=true:=by kernel_rfl
theorem OZ:Tryz.pinned.checked.prog.headLifts.contains "ownunsafe"=false:=by kernel_rfl
theorem akU:Tryz.pinned.checked.prog.listedFits [("strconv.ErrSyntax",Rows.laid_strconv_ErrSyntax),("strconv.ErrRange",Rows.laid_strconv_ErrRange),("internal/strconv.uint64pow10",Rows.laid_internal_strconv_uint64pow10),("math/bits.deBruijn32tab",Rows.laid_math_bits_deBruijn32tab),("math/bits.deBruijn64tab",Rows.laid_math_bits_deBruijn64tab),("unicode/utf8.first",Rows.laid_unicode_utf8_first),("unicode/utf8.acceptRanges",Rows.laid_unicode_utf8_acceptRanges),("strings.asciiSpace",Rows.laid_strings_asciiSpace),("unicode.White_Space",Rows.laid_unicode_White_Space)]=true:=by
 unfold Program.listedFits;rw [OZ]
 kernel_rfl
end Go.Proofs.YtfddpcckppibjaaGreatDoor.TT
