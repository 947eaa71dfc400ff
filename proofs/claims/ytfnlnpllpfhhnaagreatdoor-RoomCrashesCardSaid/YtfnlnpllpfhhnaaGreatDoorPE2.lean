/- What RoomCrashes reaches; no condition. -/
import Derived.Test.YtfnlnpllpfhhnaaGreatDoorRows
import Derived.SevenTiedAt
import Derived.ProofKit
import Derived.Stop.Joined
set_option linter.all false
namespace Go.Proofs.YtfnlnpllpfhhnaaGreatDoor.TT
open Go
set_option maxRecDepth 100000
theorem aEx:Tryz.prog.funcs.any Func.goes=false:=by kernel_rfl
theorem Xr {P:Program}(h:P.funcs.any Func.goes=false)(f:FuncId):P.goes f=false:=by
 have c:∀a∈P.funcs,Func.goes a=false:=λa b=>by
  cases hg:Func.goes a with
  | false=>rfl
  | true=>exact absurd (Array.any_eq_true'.2 ⟨a,b,hg⟩) (by rw [h];decide)
 have d:((P.closure f).any λg=>(P.funcs[g]?).any Func.goes)=false:=by
  rw [List.any_eq_false];intro g _;cases hg:P.funcs[g]? with
  | none=>simp
  | some a=>simp [c a (Array.mem_of_getElem? hg)]
 unfold Program.goes;rw [h,d,Bool.and_false];rfl
theorem Rb {P:Program}(h:P.funcs.any Func.goes=false)(n:String):P.goesAt .entering n=false:=by
 unfold Program.goesAt Program.goesFrom;cases hn:P.funcNamed n with
 | none=>rfl
 | some f=>simp [Xr h f]
theorem cl6:Tryz.prog.closure 6=[6,24,7,8,29,30,68,109,187,36,78,129,130,131,132,123,228,229,294,388,451,452,389,296,230,231,295,297,298,299,390,391,392,399,393,453,300,394,396,395,382,117,220,303,400,240,183,307,223,210,306,127,232,301,217,270,343,344,288,373,379,267,374,446,375,428,429,376,447,448,474,377,378,380,381,397,133,134,135,38,136,137,138,139,140,243,313,141,142,143,144,145,51,146,79,19,52,53,110,188,268,66,103,104,184,265,266,334,426,105,106,186,185,107,108,98,189,190,191,192,269,335,336,427,337,338,430,431,468,339,340,341,342,193,194,271,345,346,432,347,348,433,434,469,349,350,351,352,195,196,197,272,353,354,435,470,198,199,273,355,356,436,471,200,201,202,274,357,358,437,359,360,438,439,472,361,362,363,364,203,72,124,233,234,235,236,302,75,398,69,111,205,204,275,112,207,278,366,367,440,277,365,280,281,279,368,441,442,473,486,208,209,115,215,216,113,213,238,305,239,283,401,402,403,309,405,406,456,477,478,476,408,407,457,479,487,481,482,489,480,488,310,312,409,311,282,369,372,370,404,454,455,206,276,114,211,212,285,284,371,443,444,445,125,214,286,287,308,31,70,116,219,218,118,222,221,290,289,32,71,119,120,224,291,385,450,384,449,475,383,121,122,225,227,292,387,386,241,293,226,33,73,74,126,237,304,242,76,77,128,34,9,37,80,147,244,314,410,411,458,459,412,413,460,461,483,484,81,148,149,84,166,150,85,93,178,258,329,424,425,179,259,330,260,261,331,262,151,152,153,154,155,156,157,158,159,160,161,162,163,10,39,82,35,25,21,54,92,177,255,325,326,419,256,327,257,328,420,466,421,422,423,467,94,180,263,332,264,333,181,182,11,40,41,83,164,165,245,315,316,95,55,96,97,56,99,64,26,65,27,67,17,28,13,45]:=by kernel_rfl
end Go.Proofs.YtfnlnpllpfhhnaaGreatDoor.TT
