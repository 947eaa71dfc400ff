/- The closed facts of the row of RoomTexts; no condition. -/
import Derived.Test.YtfnlnpllpfhhnaaGreatDoorRows
import Derived.SevenTiedAt
import Derived.ProofKit
import Derived.Stop.Joined
set_option linter.unusedSimpArgs false
set_option linter.unusedVariables false
namespace Go.Proofs.YtfnlnpllpfhhnaaGreatDoor.TT
open Go
set_option maxRecDepth 100000
theorem ave:Tryz.prog.funcs.any Func.goes=false:=by kernel_rfl
theorem MW {P:Program}(h:P.funcs.any Func.goes=false)(f:FuncId):P.goes f=false:=by
 have h1:∀fn∈P.funcs,Func.goes fn=false:=fun fn hfn=>by
  cases hg:Func.goes fn with
  | false=>rfl
  | true=>exact absurd (Array.any_eq_true'.2 ⟨fn,hfn,hg⟩) (by rw [h];decide)
 have h2:((P.closure f).any fun g=>(P.funcs[g]?).any Func.goes)=false:=by
  rw [List.any_eq_false]
  intro g _
  cases hg:P.funcs[g]? with
  | none=>simp
  | some fn=>simp [h1 fn (Array.mem_of_getElem? hg)]
 unfold Program.goes
 rw [h,h2,Bool.and_false];rfl
theorem FV {P:Program}(h:P.funcs.any Func.goes=false)(n:String):P.goesAt .entering n=false:=by
 unfold Program.goesAt Program.goesFrom
 cases hn:P.funcNamed n with
 | none=>rfl
 | some f=>simp [MW h f]
theorem cl3:Tryz.prog.closure 3=[3,7,8,29,30,68,109,187,36,78,129,130,131,132,123,228,229,294,388,451,452,389,296,230,231,295,297,298,299,390,391,392,399,393,453,300,394,396,395,382,117,220,303,400,240,183,307,223,210,306,127,232,301,217,270,343,344,288,373,379,267,374,446,375,428,429,376,447,448,474,377,378,380,381,397,133,134,135,38,136,137,138,139,140,243,313,141,142,143,144,145,51,146,79,19,52,53,110,188,268,66,103,104,184,265,266,334,426,105,106,186,185,107,108,98,189,190,191,192,269,335,336,427,337,338,430,431,468,339,340,341,342,193,194,271,345,346,432,347,348,433,434,469,349,350,351,352,195,196,197,272,353,354,435,470,198,199,273,355,356,436,471,200,201,202,274,357,358,437,359,360,438,439,472,361,362,363,364,203,72,124,233,234,235,236,302,75,398,69,111,205,204,275,112,207,278,366,367,440,277,365,280,281,279,368,441,442,473,486,208,209,115,215,216,113,213,238,305,239,283,401,402,403,309,405,406,456,477,478,476,408,407,457,479,487,481,482,489,480,488,310,312,409,311,282,369,372,370,404,454,455,206,276,114,211,212,285,284,371,443,444,445,125,214,286,287,308,31,70,116,219,218,118,222,221,290,289,32,71,119,120,224,291,385,450,384,449,475,383,121,122,225,227,292,387,386,241,293,226,33,73,74,126,237,304,242,76,77,128,34,9,37,80,147,244,314,410,411,458,459,412,413,460,461,483,484,81,148,149,84,166,150,85,93,178,258,329,424,425,179,259,330,260,261,331,262,151,152,153,154,155,156,157,158,159,160,161,162,163,10,39,82,35,11,40,41,83,164,165,245,315,316,12,42,43,86,44,14,16,46,47,87,88,167,168,246,318,317,176,89,169,173,247,170,171,90,172,248,249,319,174,250,253,175,251,320,252,254,321,415,414,463,462,485,416,465,464,322,323,417,324,418,48,13,45,15,49,91,18,50,17]:=by kernel_rfl
set_option maxHeartbeats 4000000
theorem in3:Tryz.prog.inPlace 3=[]:=by unfold Program.inPlace;rw [cl3];kernel_rfl
theorem as8:Tryz.prog.unfollowed 3=true:=by unfold Program.unfollowed;rw [cl3];kernel_rfl
theorem avf:Tryz.prog.recurses 3=true:=by unfold Program.recurses;rw [as8];rfl
theorem avg:Tryz.prog.varsNamed 3=["internal/strconv.uint64pow10", "math/bits.deBruijn32tab", "math/bits.deBruijn64tab", "strconv.ErrSyntax", "strconv.ErrRange", "strings.asciiSpace", "unicode.White_Space"]:=by unfold Program.varsNamed;rw [cl3];kernel_rfl
theorem aqu {a b:Bool}(h1:a=true)(h2:b=true):(a&&b)=true:=by rw [h1,h2];rfl
theorem XW:joinedFacts Tryz.prog 3 Tryz.f3 Rows.roomTextsSpec Rows.roomTextsRow=true:=by
 unfold joinedFacts
 repeat' with_reducible refine aqu ?_ ?_
 all_goals first | (rw [in3];rfl) | (rw [as8];rfl) | (rw [avf];rfl) | (rw [avg];decide) | (as_aux_lemma=>kernel_rfl)
theorem Rv:Tryz.prog.funcNamed "wringing/wringinglaw08.RoomTexts"=some 3:=by kernel_rfl
theorem aqv:Tryz.f3.isInstance Tryz.prog Rows.roomTextsRow.origin Rows.roomTextsRow.targs:=of_decide_eq_true (by kernel_rfl)
theorem aqw:Tryz.f3.isWrapper Tryz.prog Rows.roomTextsRow.wrapper Rows.roomTextsRow.mainSum:=by unfold Func.isWrapper;first | (rw [if_pos (by decide +kernel)];kernel_rfl) | (rw [if_neg (by decide +kernel)];exact⟨rfl,rfl⟩)
theorem adX (h:∀os:Os,os.Started→∀(H:Type)(enc:TypeId×Value→H),(∀a b,enc a=enc b→a=b)→
   ReturnsInHanded Rows.roomTextsRow.assume Tryz.pinned.checked os 3 .any (Rows.roomTextsRow.pre enc Tryz.pinned.checked.prog Tryz.f3 (OpenSpec.ofChange Rows.roomTextsSpec)) (Rows.roomTextsSpec.post enc Tryz.pinned.checked.prog Tryz.f3 Rows.roomTextsRow.apart Rows.roomTextsRow.fresh Rows.roomTextsRow.handsOn Rows.roomTextsRow.again)):Rows.RoomTextsSaid:=
 OpenClaim.holds_of_wide (p:=Tryz.pinned) 3 Tryz.f3 rfl rfl rfl rfl rfl rfl rfl ⟨rfl,rfl,rfl,rfl,rfl⟩ rfl rfl rfl rfl rfl Rv Tryz.func3 XW aqv aqw h
end Go.Proofs.YtfnlnpllpfhhnaaGreatDoor.TT
