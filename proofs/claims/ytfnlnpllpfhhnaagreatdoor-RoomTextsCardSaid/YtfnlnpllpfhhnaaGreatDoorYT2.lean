/- The tie of the row of RoomTexts; no condition. -/
import Derived.Test.YtfnlnpllpfhhnaaGreatDoorYT1
import Derived.Test.YtfnlnpllpfhhnaaGreatDoorYE1
import Derived.Test.YtfnlnpllpfhhnaaGreatDoorCards
set_option linter.unusedSimpArgs false
set_option linter.unusedVariables false
namespace Go.Proofs.YtfnlnpllpfhhnaaGreatDoor.TT
open Go
set_option maxRecDepth 100000
def plA:List MemPlace:=pl2++(pl0++(pl1++(pl4++(pl3++(pl6++(pl5))))))
theorem Na (os:Os)(tape:Tape):∃v w,runN Tryz.prog 96 (Machine.entering Tryz.prog (World.unlaid Tryz.prog os) tape (varsId Tryz.prog) ⟨#[],#[],[]⟩)=.ended (.done v) w∧DataW.laidRun Tryz.prog w.memory 8 (([("internal/strconv.uint64pow10",Rows.laid_internal_strconv_uint64pow10),("math/bits.deBruijn32tab",Rows.laid_math_bits_deBruijn32tab),("math/bits.deBruijn64tab",Rows.laid_math_bits_deBruijn64tab),("strconv.ErrSyntax",Rows.laid_strconv_ErrSyntax),("strconv.ErrRange",Rows.laid_strconv_ErrRange),("strings.asciiSpace",Rows.laid_strings_asciiSpace),("unicode.White_Space",Rows.laid_unicode_White_Space)]:List (String×DataW Unit)).map (·.1))=some ([("internal/strconv.uint64pow10",Rows.laid_internal_strconv_uint64pow10),("math/bits.deBruijn32tab",Rows.laid_math_bits_deBruijn32tab),("math/bits.deBruijn64tab",Rows.laid_math_bits_deBruijn64tab),("strconv.ErrSyntax",Rows.laid_strconv_ErrSyntax),("strconv.ErrRange",Rows.laid_strconv_ErrRange),("strings.asciiSpace",Rows.laid_strings_asciiSpace),("unicode.White_Space",Rows.laid_unicode_White_Space)],plA)∧laidRowsB Tryz.prog w.memory plA=true:=by
 obtain⟨v,w,hr,h0⟩:=Ab (rd0 os tape)
 obtain⟨h0,g0⟩:=jK h0
 obtain⟨h1,g1⟩:=jK (oI (rd1 os tape) hr)
 obtain⟨h2,g2⟩:=jK (oI (rd2 os tape) hr)
 obtain⟨h3,g3⟩:=jK (oI (rd3 os tape) hr)
 obtain⟨h4,g4⟩:=jK (oI (rd4 os tape) hr)
 obtain⟨h5,g5⟩:=jK (oI (rd5 os tape) hr)
 obtain⟨h6,g6⟩:=jK (oI (rd6 os tape) hr)
 refine⟨v,w,hr,fH h2 (fH h0 (fH h1 (fH h4 (fH h3 (fH h6 h5))))),?_⟩
 unfold laidRowsB at *
 unfold plA
 simp only [List.all_append,g0,g1,g2,g3,g4,g5,g6,Bool.and_self]
theorem Rw:nodupBits 257 plA 0=true:=by kernel_rfl
theorem avh:Tryz.prog.laidByTextLater [("internal/strconv.uint64pow10",Rows.laid_internal_strconv_uint64pow10),("math/bits.deBruijn32tab",Rows.laid_math_bits_deBruijn32tab),("math/bits.deBruijn64tab",Rows.laid_math_bits_deBruijn64tab),("strconv.ErrSyntax",Rows.laid_strconv_ErrSyntax),("strconv.ErrRange",Rows.laid_strconv_ErrRange),("strings.asciiSpace",Rows.laid_strings_asciiSpace),("unicode.White_Space",Rows.laid_unicode_White_Space)] [.data,.data,.data,.sentinel,.sentinel,.data,.listed] true:=
 MX 96 8 257 plA (by kernel_rfl) (by kernel_rfl) (by kernel_rfl) (by kernel_rfl) (by kernel_rfl) (by kernel_rfl) (by kernel_rfl) Na Rw
theorem Nb (os:Os)(args:Array Value):laidMetH Tryz.prog [("internal/strconv.uint64pow10",Rows.laid_internal_strconv_uint64pow10),("math/bits.deBruijn32tab",Rows.laid_math_bits_deBruijn32tab),("math/bits.deBruijn64tab",Rows.laid_math_bits_deBruijn64tab),("strconv.ErrSyntax",Rows.laid_strconv_ErrSyntax),("strconv.ErrRange",Rows.laid_strconv_ErrRange),("strings.asciiSpace",Rows.laid_strings_asciiSpace),("unicode.White_Space",Rows.laid_unicode_White_Space)] ((World.doorLaid Tryz.prog 96 os).forCall (fun _ _=>0) ⟨#[],args,[]⟩).memory:=MZ (by kernel_rfl) (Na os _) Rw
theorem FW:Tryz.pinned.checked.prog.headLifts.contains "ownunsafe"=false:=by kernel_rfl
theorem tX:Rows.roomTextsRow.laidByTextAt .later Tryz.pinned [.data,.data,.data,.sentinel,.sentinel,.data,.listed] true:=
 OpenClaim.laidByTextAt_later rfl rfl avh FW
theorem aqx:Tryz.prog.mainIs=some (true, "b11c46b45828f6678e86c8f999832f945a1c062c9f875deaf66930a7dd8f79f8".toList):=by kernel_rfl
theorem adY:true=Tryz.prog.looks []:=by kernel_rfl
theorem aqy:Rows.roomTextsRow.wfByText (OpenSpec.ofChange Rows.roomTextsSpec)=true:=by kernel_rfl
theorem adZ:(Tryz.f3.params.toList.all fun u=>!Tryz.prog.wantsStandIn u)=true:=by kernel_rfl
theorem aqz:false=Rows.roomTextsRow.goesBy Tryz.prog:=(FV ave _).symm
theorem aqA (h:Rows.RoomTextsSaid):Rows.RoomTextsCardSaid:=
 Claim7.holds_tied_plain_at (p:=Tryz.pinned) .later [] [.data,.data,.data,.sentinel,.sentinel,.data,.listed] true (true, "b11c46b45828f6678e86c8f999832f945a1c062c9f875deaf66930a7dd8f79f8") true
  h (fun _ h=>by cases h) aqy (fun _ h=>by cases h) tX rfl ⟨rfl,rfl⟩ aqx rfl
  (fun f fn hf hfn=>by
   obtain rfl:f=3:=Option.some.inj ((show Tryz.prog.funcNamed "wringing/wringinglaw08.RoomTexts"=some 3 from Rv).symm.trans hf) |>.symm
   obtain rfl:fn=Tryz.f3:=(Option.some.inj (Tryz.func3.symm.trans hfn)).symm
   exact⟨adY,fun j t ht=>by
    have hs:Tryz.prog.wantsStandIn t=false:=by simpa using List.all_eq_true.1 adZ t (Array.mem_toList_iff.2 (Array.mem_of_getElem? ht))
    exact hs⟩)
  aqz
end Go.Proofs.YtfnlnpllpfhhnaaGreatDoor.TT
