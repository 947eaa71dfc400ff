/- The closed facts of the row of RoomTextsBack; no condition. -/
import Derived.Test.YtfnlnpllpfhhnaaGreatDoorRows
import Derived.SevenTiedAt
import Derived.ProofKit
import Derived.Stop.Joined
set_option linter.unusedSimpArgs false
set_option linter.unusedVariables false
namespace Go.Proofs.YtfnlnpllpfhhnaaGreatDoor.TT
open Go
set_option maxRecDepth 100000
theorem ar8:Tryz.prog.funcs.any Func.goes=false:=by kernel_rfl
theorem Jq {P:Program}(h:P.funcs.any Func.goes=false)(f:FuncId):P.goes f=false:=by
 have h1:∀fn∈P.funcs,Func.goes fn=false:=fun fn hfn=>by
  cases hg:Func.goes fn with
  | false=>rfl
  | true=>exact absurd (Array.any_eq_true'.2 ⟨fn,hfn,hg⟩) (by rw [h];decide)
 have h2:((P.closure f).any fun g=>(P.funcs[g]?).any Func.goes)=false:=by
  rw [List.any_eq_false]
  intro g _
  cases hg:P.funcs[g]? with
  | none=>simp
  | some fn=>simp [h1 fn (Array.mem_of_getElem? hg)]
 unfold Program.goes
 rw [h,h2,Bool.and_false];rfl
theorem Dc {P:Program}(h:P.funcs.any Func.goes=false)(n:String):P.goesAt .entering n=false:=by
 unfold Program.goesAt Program.goesFrom
 cases hn:P.funcNamed n with
 | none=>rfl
 | some f=>simp [Jq h f]
theorem cl4:Tryz.prog.closure 4=[4,7,8,29,30,68,109,187,36,78,129,130,131,132,123,228,229,294,388,451,452,389,296,230,231,295,297,298,299,390,391,392,399,393,453,300,394,396,395,382,117,220,303,400,240,183,307,223,210,306,127,232,301,217,270,343,344,288,373,379,267,374,446,375,428,429,376,447,448,474,377,378,380,381,397,133,134,135,38,136,137,138,139,140,243,313,141,142,143,144,145,51,146,79,19,52,53,110,188,268,66,103,104,184,265,266,334,426,105,106,186,185,107,108,98,189,190,191,192,269,335,336,427,337,338,430,431,468,339,340,341,342,193,194,271,345,346,432,347,348,433,434,469,349,350,351,352,195,196,197,272,353,354,435,470,198,199,273,355,356,436,471,200,201,202,274,357,358,437,359,360,438,439,472,361,362,363,364,203,72,124,233,234,235,236,302,75,398,69,111,205,204,275,112,207,278,366,367,440,277,365,280,281,279,368,441,442,473,486,208,209,115,215,216,113,213,238,305,239,283,401,402,403,309,405,406,456,477,478,476,408,407,457,479,487,481,482,489,480,488,310,312,409,311,282,369,372,370,404,454,455,206,276,114,211,212,285,284,371,443,444,445,125,214,286,287,308,31,70,116,219,218,118,222,221,290,289,32,71,119,120,224,291,385,450,384,449,475,383,121,122,225,227,292,387,386,241,293,226,33,73,74,126,237,304,242,76,77,128,34,9,37,80,147,244,314,410,411,458,459,412,413,460,461,483,484,81,148,149,84,166,150,85,93,178,258,329,424,425,179,259,330,260,261,331,262,151,152,153,154,155,156,157,158,159,160,161,162,163,10,39,82,35,11,40,41,83,164,165,245,315,316,13,45]:=by kernel_rfl
end Go.Proofs.YtfnlnpllpfhhnaaGreatDoor.TT
namespace Go.Proofs.YtfnlnpllpfhhnaaGreatDoor.TT
open Go
set_option maxRecDepth 100000
set_option maxHeartbeats 4000000
theorem in4:Tryz.prog.inPlace 4=[]:=by unfold Program.inPlace;rw [cl4];kernel_rfl
theorem ap8:Tryz.prog.unfollowed 4=true:=by unfold Program.unfollowed;rw [cl4];kernel_rfl
theorem ar9:Tryz.prog.recurses 4=true:=by unfold Program.recurses;rw [ap8];rfl
theorem ara:Tryz.prog.varsNamed 4=["internal/strconv.uint64pow10", "math/bits.deBruijn32tab", "math/bits.deBruijn64tab", "strconv.ErrSyntax", "strconv.ErrRange", "strings.asciiSpace", "unicode.White_Space"]:=by unfold Program.varsNamed;rw [cl4];kernel_rfl
theorem amI {a b:Bool}(h1:a=true)(h2:b=true):(a&&b)=true:=by rw [h1,h2];rfl
theorem Tj:joinedFacts Tryz.prog 4 Tryz.f4 Rows.roomTextsBackSpec Rows.roomTextsBackRow=true:=by
 unfold joinedFacts
 repeat' with_reducible refine amI ?_ ?_
 all_goals first | (rw [in4];rfl) | (rw [ap8];rfl) | (rw [ar9];rfl) | (rw [ara];decide) | (as_aux_lemma=>kernel_rfl)
end Go.Proofs.YtfnlnpllpfhhnaaGreatDoor.TT
namespace Go.Proofs.YtfnlnpllpfhhnaaGreatDoor.TT
open Go
set_option maxRecDepth 100000
theorem Nr:Tryz.prog.funcNamed "wringing/wringinglaw08.RoomTextsBack"=some 4:=by kernel_rfl
theorem amJ:Tryz.f4.isInstance Tryz.prog Rows.roomTextsBackRow.origin Rows.roomTextsBackRow.targs:=of_decide_eq_true (by kernel_rfl)
theorem amK:Tryz.f4.isWrapper Tryz.prog Rows.roomTextsBackRow.wrapper Rows.roomTextsBackRow.mainSum:=by unfold Func.isWrapper;first | (rw [if_pos (by decide +kernel)];kernel_rfl) | (rw [if_neg (by decide +kernel)];exact⟨rfl,rfl⟩)
theorem aam (h:∀os:Os,os.Started→∀(H:Type)(enc:TypeId×Value→H),(∀a b,enc a=enc b→a=b)→
   ReturnsInHanded Rows.roomTextsBackRow.assume Tryz.pinned.checked os 4 .any (Rows.roomTextsBackRow.pre enc Tryz.pinned.checked.prog Tryz.f4 (OpenSpec.ofChange Rows.roomTextsBackSpec)) (Rows.roomTextsBackSpec.post enc Tryz.pinned.checked.prog Tryz.f4 Rows.roomTextsBackRow.apart Rows.roomTextsBackRow.fresh Rows.roomTextsBackRow.handsOn Rows.roomTextsBackRow.again)):Rows.RoomTextsBackSaid:=
 OpenClaim.holds_of_wide (p:=Tryz.pinned) 4 Tryz.f4 rfl rfl rfl rfl rfl rfl rfl ⟨rfl,rfl,rfl,rfl,rfl⟩ rfl rfl rfl rfl rfl Nr Tryz.func4 Tj amJ amK h
end Go.Proofs.YtfnlnpllpfhhnaaGreatDoor.TT
