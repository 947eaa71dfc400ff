/- The closed facts of the row of RoomMerges; no condition. -/
import Derived.Test.YtefodipjjofocaaGreatDoorRows
import Derived.SevenTiedAt
import Derived.ProofKit
import Derived.Stop.Joined
import Derived.Test.YtefodipjjofocaaGreatDoorCards
import Derived.Test.YtefodipjjofocaaGreatDoorTie
set_option linter.unusedSimpArgs false
set_option linter.unusedVariables false
namespace Go.Proofs.YtefodipjjofocaaGreatDoor.TT
open Go
set_option maxRecDepth 100000
theorem axN:Tryz.prog.funcs.any Func.goes=false:=by kernel_rfl
theorem GU {P:Program}(h:P.funcs.any Func.goes=false)(f:FuncId):P.goes f=false:=by
 have h1:∀fn∈P.funcs,Func.goes fn=false:=fun fn hfn=>by
  cases hg:Func.goes fn with
  | false=>rfl
  | true=>exact absurd (Array.any_eq_true'.2 ⟨fn,hfn,hg⟩) (by rw [h];decide)
 have h2:((P.closure f).any fun g=>(P.funcs[g]?).any Func.goes)=false:=by
  rw [List.any_eq_false]
  intro g _
  cases hg:P.funcs[g]? with
  | none=>simp
  | some fn=>simp [h1 fn (Array.mem_of_getElem? hg)]
 unfold Program.goes
 rw [h,h2,Bool.and_false];rfl
theorem Bo {P:Program}(h:P.funcs.any Func.goes=false)(n:String):P.goesAt .entering n=false:=by
 unfold Program.goesAt Program.goesFrom
 cases hn:P.funcNamed n with
 | none=>rfl
 | some f=>simp [GU h f]
theorem cl5:Tryz.prog.closure 5=[5,6,7,8,25,26,16,43,9,34,68,135,136,137,138,92,161,162,258,323,382,383,324,260,163,164,259,261,262,263,325,326,327,334,328,384,264,329,331,330,359,122,194,267,335,205,153,300,197,184,299,130,165,265,191,155,236,237,291,350,356,156,351,396,352,311,312,353,397,398,416,354,355,357,358,332,139,140,141,66,142,143,144,145,146,227,309,147,148,149,150,151,35,152,69,13,40,41,45,44,73,56,110,111,177,276,277,341,389,112,113,80,83,114,115,74,75,76,77,78,154,228,229,310,230,231,313,314,377,232,233,234,235,79,81,157,238,239,315,240,241,316,317,378,242,243,244,245,82,84,85,158,246,247,318,379,86,87,159,248,249,319,380,88,89,90,160,250,251,320,252,253,321,322,381,254,255,256,257,91,46,93,166,167,168,169,266,62,333,57,116,179,178,278,117,181,281,343,344,390,280,342,283,284,282,345,391,392,415,432,182,183,120,189,190,118,187,203,298,204,286,365,366,367,302,369,370,403,419,420,418,372,371,404,421,433,423,424,435,422,434,303,305,373,304,285,346,349,347,368,401,402,180,279,119,185,186,288,287,348,393,394,395,128,188,289,290,301,27,58,121,193,192,123,196,195,293,292,28,59,124,125,198,294,362,400,361,399,417,360,126,127,199,201,295,364,363,206,296,200,29,60,61,129,202,297,207,63,64,131,30,31,65,132,208,306,374,405,406,425,426,407,408,427,428,436,437,133,209,210,211,307,212,215,308,375,409,429,438,439,376,410,430,411,412,431,413,213,214,216,217,218,219,220,221,222,223,224,225,226,32,67,134,33,22,54,109,55,10,12,36,37,38,70,51,98,99,170,269,268,107,71,100,104,108,101,102,72,103,53,171,270,105,172,175,106,173,271,174,176,272,337,336,386,385,414,338,388,387,273,274,339,275,340,39,14,42,24,48,49,23]:=by kernel_rfl
end Go.Proofs.YtefodipjjofocaaGreatDoor.TT
namespace Go.Proofs.YtefodipjjofocaaGreatDoor.TT
open Go
set_option maxRecDepth 100000
set_option maxHeartbeats 4000000
theorem in5:Tryz.prog.inPlace 5=[]:=by unfold Program.inPlace;rw [cl5];kernel_rfl
theorem avm:Tryz.prog.unfollowed 5=true:=by unfold Program.unfollowed;rw [cl5];kernel_rfl
theorem axO:Tryz.prog.recurses 5=true:=by unfold Program.recurses;rw [avm];rfl
theorem axP:Tryz.prog.varsNamed 5=["internal/strconv.uint64pow10", "math/bits.deBruijn32tab", "math/bits.deBruijn64tab", "strconv.ErrSyntax", "strconv.ErrRange"]:=by unfold Program.varsNamed;rw [cl5];kernel_rfl
theorem ak0 {a b:Bool}(h1:a=true)(h2:b=true):(a&&b)=true:=by rw [h1,h2];rfl
theorem PG:joinedFacts Tryz.prog 5 Tryz.f5 Rows.roomMergesSpec Rows.roomMergesRow=true:=by
 unfold joinedFacts
 repeat' with_reducible refine ak0 ?_ ?_
 all_goals first | (rw [in5];rfl) | (rw [avm];rfl) | (rw [axO];rfl) | (rw [axP];decide) | (as_aux_lemma=>kernel_rfl)
end Go.Proofs.YtefodipjjofocaaGreatDoor.TT
namespace Go.Proofs.YtefodipjjofocaaGreatDoor.TT
open Go
set_option maxRecDepth 100000
theorem Me:Tryz.prog.funcNamed "wringing/wringinglaw08.RoomMerges"=some 5:=by kernel_rfl
theorem ak1:Tryz.f5.isInstance Tryz.prog Rows.roomMergesRow.origin Rows.roomMergesRow.targs:=of_decide_eq_true (by kernel_rfl)
theorem ak2:Tryz.f5.isWrapper Tryz.prog Rows.roomMergesRow.wrapper Rows.roomMergesRow.mainSum:=by unfold Func.isWrapper;first | (rw [if_pos (by decide +kernel)];kernel_rfl) | (rw [if_neg (by decide +kernel)];exact⟨rfl,rfl⟩)
theorem YJ (h:∀os:Os,os.Started→∀(H:Type)(enc:TypeId×Value→H),(∀a b,enc a=enc b→a=b)→
   ReturnsInHanded Rows.roomMergesRow.assume Tryz.pinned.checked os 5 .any (Rows.roomMergesRow.pre enc Tryz.pinned.checked.prog Tryz.f5 (OpenSpec.ofChange Rows.roomMergesSpec)) (Rows.roomMergesSpec.post enc Tryz.pinned.checked.prog Tryz.f5 Rows.roomMergesRow.apart Rows.roomMergesRow.fresh Rows.roomMergesRow.handsOn Rows.roomMergesRow.again)):Rows.RoomMergesSaid:=
 OpenClaim.holds_of_wide (p:=Tryz.pinned) 5 Tryz.f5 rfl rfl rfl rfl rfl rfl rfl ⟨rfl,rfl,rfl,rfl,rfl⟩ rfl rfl rfl rfl rfl Me Tryz.func5 PG ak1 ak2 h
end Go.Proofs.YtefodipjjofocaaGreatDoor.TT
namespace Go.Proofs.YtefodipjjofocaaGreatDoor.TT
open Go
set_option maxRecDepth 100000
theorem ak3:Tryz.prog.mainIs=some (true, "428d4dddf37a9cc27f046ec9fc3a5a4b629650ecdab7d3afd2372d8f2db67c29".toList):=by kernel_rfl
theorem YK:true=Tryz.prog.looks []:=by kernel_rfl
theorem ak4:Rows.roomMergesRow.wfByText (OpenSpec.ofChange Rows.roomMergesSpec)=true:=by kernel_rfl
theorem YL:(Tryz.f5.params.toList.all fun u=>!Tryz.prog.wantsStandIn u)=true:=by kernel_rfl
theorem ak5:false=Rows.roomMergesRow.goesBy Tryz.prog:=(Bo axN _).symm
theorem ak6 (h:Rows.RoomMergesSaid):Rows.RoomMergesCardSaid:=
 Claim7.holds_tied_plain_at (p:=Tryz.pinned) .later [] [.data,.data,.data,.sentinel,.sentinel] true (true, "428d4dddf37a9cc27f046ec9fc3a5a4b629650ecdab7d3afd2372d8f2db67c29") true
  h (fun _ h=>by cases h) ak4 (fun _ h=>by cases h) roomMerges_row_tie rfl ⟨rfl,rfl⟩ ak3 rfl
  (fun f fn hf hfn=>by
   obtain rfl:f=5:=Option.some.inj ((show Tryz.prog.funcNamed "wringing/wringinglaw08.RoomMerges"=some 5 from Me).symm.trans hf) |>.symm
   obtain rfl:fn=Tryz.f5:=(Option.some.inj (Tryz.func5.symm.trans hfn)).symm
   exact⟨YK,fun j t ht=>by
    have hs:Tryz.prog.wantsStandIn t=false:=by simpa using List.all_eq_true.1 YL t (Array.mem_toList_iff.2 (Array.mem_of_getElem? ht))
    exact hs⟩)
  ak5
end Go.Proofs.YtefodipjjofocaaGreatDoor.TT
