/- The tie of the row of RoomTextsBack; no condition. -/
import Derived.Test.YtfnlnpllpfhhnaaGreatDoorXT1
import Derived.Test.YtfnlnpllpfhhnaaGreatDoorXE1
import Derived.Test.YtfnlnpllpfhhnaaGreatDoorCards
set_option linter.unusedSimpArgs false
set_option linter.unusedVariables false
namespace Go.Proofs.YtfnlnpllpfhhnaaGreatDoor.TT
open Go
set_option maxRecDepth 100000
def plA:List MemPlace:=pl2++(pl0++(pl1++(pl4++(pl3++(pl6++(pl5))))))
theorem Jt (os:Os)(tape:Tape):∃v w,runN Tryz.prog 96 (Machine.entering Tryz.prog (World.unlaid Tryz.prog os) tape (varsId Tryz.prog) ⟨#[],#[],[]⟩)=.ended (.done v) w∧DataW.laidRun Tryz.prog w.memory 8 (([("internal/strconv.uint64pow10",Rows.laid_internal_strconv_uint64pow10),("math/bits.deBruijn32tab",Rows.laid_math_bits_deBruijn32tab),("math/bits.deBruijn64tab",Rows.laid_math_bits_deBruijn64tab),("strconv.ErrSyntax",Rows.laid_strconv_ErrSyntax),("strconv.ErrRange",Rows.laid_strconv_ErrRange),("strings.asciiSpace",Rows.laid_strings_asciiSpace),("unicode.White_Space",Rows.laid_unicode_White_Space)]:List (String×DataW Unit)).map (·.1))=some ([("internal/strconv.uint64pow10",Rows.laid_internal_strconv_uint64pow10),("math/bits.deBruijn32tab",Rows.laid_math_bits_deBruijn32tab),("math/bits.deBruijn64tab",Rows.laid_math_bits_deBruijn64tab),("strconv.ErrSyntax",Rows.laid_strconv_ErrSyntax),("strconv.ErrRange",Rows.laid_strconv_ErrRange),("strings.asciiSpace",Rows.laid_strings_asciiSpace),("unicode.White_Space",Rows.laid_unicode_White_Space)],plA)∧laidRowsB Tryz.prog w.memory plA=true:=by
 obtain⟨v,w,hr,h0⟩:=wR (rd0 os tape)
 obtain⟨h0,g0⟩:=iG h0
 obtain⟨h1,g1⟩:=iG (mQ (rd1 os tape) hr)
 obtain⟨h2,g2⟩:=iG (mQ (rd2 os tape) hr)
 obtain⟨h3,g3⟩:=iG (mQ (rd3 os tape) hr)
 obtain⟨h4,g4⟩:=iG (mQ (rd4 os tape) hr)
 obtain⟨h5,g5⟩:=iG (mQ (rd5 os tape) hr)
 obtain⟨h6,g6⟩:=iG (mQ (rd6 os tape) hr)
 refine⟨v,w,hr,dI h2 (dI h0 (dI h1 (dI h4 (dI h3 (dI h6 h5))))),?_⟩
 unfold laidRowsB at *
 unfold plA
 simp only [List.all_append,g0,g1,g2,g3,g4,g5,g6,Bool.and_self]
theorem Ns:nodupBits 257 plA 0=true:=by kernel_rfl
theorem arb:Tryz.prog.laidByTextLater [("internal/strconv.uint64pow10",Rows.laid_internal_strconv_uint64pow10),("math/bits.deBruijn32tab",Rows.laid_math_bits_deBruijn32tab),("math/bits.deBruijn64tab",Rows.laid_math_bits_deBruijn64tab),("strconv.ErrSyntax",Rows.laid_strconv_ErrSyntax),("strconv.ErrRange",Rows.laid_strconv_ErrRange),("strings.asciiSpace",Rows.laid_strings_asciiSpace),("unicode.White_Space",Rows.laid_unicode_White_Space)] [.data,.data,.data,.sentinel,.sentinel,.data,.listed] true:=
 Jr 96 8 257 plA (by kernel_rfl) (by kernel_rfl) (by kernel_rfl) (by kernel_rfl) (by kernel_rfl) (by kernel_rfl) (by kernel_rfl) Jt Ns
theorem Ju (os:Os)(args:Array Value):laidMetH Tryz.prog [("internal/strconv.uint64pow10",Rows.laid_internal_strconv_uint64pow10),("math/bits.deBruijn32tab",Rows.laid_math_bits_deBruijn32tab),("math/bits.deBruijn64tab",Rows.laid_math_bits_deBruijn64tab),("strconv.ErrSyntax",Rows.laid_strconv_ErrSyntax),("strconv.ErrRange",Rows.laid_strconv_ErrRange),("strings.asciiSpace",Rows.laid_strings_asciiSpace),("unicode.White_Space",Rows.laid_unicode_White_Space)] ((World.doorLaid Tryz.prog 96 os).forCall (fun _ _=>0) ⟨#[],args,[]⟩).memory:=Js (by kernel_rfl) (Jt os _) Ns
theorem Df:Tryz.pinned.checked.prog.headLifts.contains "ownunsafe"=false:=by kernel_rfl
end Go.Proofs.YtfnlnpllpfhhnaaGreatDoor.TT
namespace Go.Proofs.YtfnlnpllpfhhnaaGreatDoor.TT
open Go
set_option maxRecDepth 100000
theorem lY:Rows.roomTextsBackRow.laidByTextAt .later Tryz.pinned [.data,.data,.data,.sentinel,.sentinel,.data,.listed] true:=
 OpenClaim.laidByTextAt_later rfl rfl arb Df
end Go.Proofs.YtfnlnpllpfhhnaaGreatDoor.TT
namespace Go.Proofs.YtfnlnpllpfhhnaaGreatDoor.TT
open Go
set_option maxRecDepth 100000
theorem amL:Tryz.prog.mainIs=some (true, "b11c46b45828f6678e86c8f999832f945a1c062c9f875deaf66930a7dd8f79f8".toList):=by kernel_rfl
theorem aan:true=Tryz.prog.looks []:=by kernel_rfl
theorem amM:Rows.roomTextsBackRow.wfByText (OpenSpec.ofChange Rows.roomTextsBackSpec)=true:=by kernel_rfl
theorem aao:(Tryz.f4.params.toList.all fun u=>!Tryz.prog.wantsStandIn u)=true:=by kernel_rfl
theorem amN:false=Rows.roomTextsBackRow.goesBy Tryz.prog:=(Dc ar8 _).symm
theorem amO (h:Rows.RoomTextsBackSaid):Rows.RoomTextsBackCardSaid:=
 Claim7.holds_tied_plain_at (p:=Tryz.pinned) .later [] [.data,.data,.data,.sentinel,.sentinel,.data,.listed] true (true, "b11c46b45828f6678e86c8f999832f945a1c062c9f875deaf66930a7dd8f79f8") true
  h (fun _ h=>by cases h) amM (fun _ h=>by cases h) lY rfl ⟨rfl,rfl⟩ amL rfl
  (fun f fn hf hfn=>by
   obtain rfl:f=4:=Option.some.inj ((show Tryz.prog.funcNamed "wringing/wringinglaw08.RoomTextsBack"=some 4 from Nr).symm.trans hf) |>.symm
   obtain rfl:fn=Tryz.f4:=(Option.some.inj (Tryz.func4.symm.trans hfn)).symm
   exact⟨aan,fun j t ht=>by
    have hs:Tryz.prog.wantsStandIn t=false:=by simpa using List.all_eq_true.1 aao t (Array.mem_toList_iff.2 (Array.mem_of_getElem? ht))
    exact hs⟩)
  amN
end Go.Proofs.YtfnlnpllpfhhnaaGreatDoor.TT
