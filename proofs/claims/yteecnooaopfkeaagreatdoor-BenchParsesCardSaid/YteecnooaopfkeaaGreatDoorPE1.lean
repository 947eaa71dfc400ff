/- The closed facts of the row of BenchParses; no condition. -/
import Derived.Test.YteecnooaopfkeaaGreatDoorRows
import Derived.SevenTiedAt
import Derived.ProofKit
import Derived.Stop.Joined
set_option linter.all false
namespace Go.Proofs.YteecnooaopfkeaaGreatDoor.TT
open Go
set_option maxRecDepth 100000
theorem an4:Tryz.prog.funcs.any Func.goes=false:=by kernel_rfl
theorem TB {P:Program}(h:P.funcs.any Func.goes=false)(f:FuncId):P.goes f=false:=by
 have h1:∀fn∈P.funcs,Func.goes fn=false:=λfn hfn=>by
  cases hg:Func.goes fn with
  | false=>rfl
  | true=>exact absurd (Array.any_eq_true'.2 ⟨fn,hfn,hg⟩) (by rw [h];decide)
 have h2:((P.closure f).any λg=>(P.funcs[g]?).any Func.goes)=false:=by
  rw [List.any_eq_false];intro g _;cases hg:P.funcs[g]? with
  | none=>simp
  | some fn=>simp [h1 fn (Array.mem_of_getElem? hg)]
 unfold Program.goes;rw [h,h2,Bool.and_false];rfl
theorem NS {P:Program}(h:P.funcs.any Func.goes=false)(n:String):P.goesAt .entering n=false:=by
 unfold Program.goesAt Program.goesFrom;cases hn:P.funcNamed n with
 | none=>rfl
 | some f=>simp [TB h f]
theorem cl4:Tryz.prog.closure 4=[4,7,8,24,25,26,45,46,47,48,91,169,220,288,289,92,170,221,171,172,187,230,293,352,353,405,454,455,354,355,456,457,546,547,222,173,49,93,50,94,174,223,290,224,225,226,291,21,10,28,29,55,95,56,96,59,100,99,177,227,292,98,97,175,176,57,58,15,35,76,115,75,14,33,68,103,69,70,104,178,228,179,105,106,180,107,108,181,182,34,71,109,183,184,110,112,186,185,229,72,111,74,73,113,114,22,43,18,38,80,118,119,120,121,122,124,193,123,188,231,189,190,129,200,244,245,304,380,381,481,551,246,235,247,263,317,266,248,249,199,242,303,192,191,232,125,194,233,294,356,357,358,359,275,322,323,426,508,571,572,509,428,324,325,427,429,430,431,510,511,512,520,513,573,432,514,516,515,528,281,338,435,521,517,575,341,386,574,326,433,392,316,404,489,554,560,555,588,556,496,497,557,589,590,597,558,559,561,562,518,360,361,362,363,364,365,366,367,458,548,368,369,370,371,372,373,256,236,295,296,234,197,241,198,240,300,301,379,465,466,377,464,467,378,468,469,470,471,472,473,474,475,476,477,478,479,480,302,243,126,127,195,128,196,237,297,374,459,460,549,375,461,238,298,299,376,462,463,550,583,584,239,81,130,201,202,131,132,133,134,135,136,137,138,82,139,140,203,204,151,206,255,207,257,314,258,259,260,261,315,396,397,495,398,399,498,499,566,400,401,402,403,262,264,318,406,407,500,408,409,501,502,567,410,411,412,413,265,267,268,319,414,415,503,568,269,270,320,416,417,504,569,271,272,273,321,418,419,505,420,421,506,507,570,422,423,424,425,274,208,276,327,328,329,330,434,519,250,305,383,382,482,306,278,332,437,438,522,331,436,334,335,333,439,523,524,576,592,385,280,309,390,391,307,336,440,525,577,484,578,579,580,593,598,599,603,606,607,605,601,600,604,608,612,610,611,614,609,613,594,595,602,596,337,441,526,442,527,581,582,384,483,308,387,388,486,485,552,585,586,587,444,389,487,488,553,141,142,143,144,145,146,147,148,149,205,251,252,310,393,492,564,491,563,591,490,253,254,311,313,394,494,493,565,395,312,150,152,209,279,277,153,154,155,210,282,340,339,445,443,156,157,211,158,83,40,39,84,159,85,88,165,213,283,284,285,342,446,343,344,345,447,347,346,348,349,350,449,529,530,531,532,533,534,535,536,537,538,539,540,541,542,543,544,448,23,44,89,90,166,167,168,214,286,351,450,451,452,453,545,215,216,287,217,218,219,11,9,27,51,52,53,54,30,60,61,101,62,65,63,102,164,64,16,36,77,116,12,31,66]:=by kernel_rfl
set_option maxHeartbeats 4000000
theorem in4:Tryz.prog.inPlace 4=["internal/bytealg.IndexByteString", "internal/bytealg.IndexString", "internal/abi.NoEscape", "internal/bytealg.MakeNoZero", "internal/bytealg.CountString"]:=by unfold Program.inPlace;rw [cl4];kernel_rfl
theorem agU:Tryz.prog.unfollowed 4=true:=by unfold Program.unfollowed;rw [cl4];kernel_rfl
theorem an6:Tryz.prog.recurses 4=true:=by unfold Program.recurses;rw [agU];rfl
theorem an7:Tryz.prog.varsNamed 4=["strconv.ErrSyntax", "strconv.ErrRange", "internal/strconv.uint64pow10", "math/bits.deBruijn32tab", "math/bits.deBruijn64tab", "internal/bytealg.MaxLen", "unicode/utf8.first", "unicode/utf8.acceptRanges", "strings.asciiSpace", "unicode.White_Space"]:=by unfold Program.varsNamed;rw [cl4];kernel_rfl
theorem agV {a b:Bool}(h1:a=true)(h2:b=true):(a&&b)=true:=by rw [h1,h2];rfl
theorem ZG:joinedFacts Tryz.prog 4 Tryz.f4 Rows.benchParsesSpec Rows.benchParsesRow=true:=by
 unfold joinedFacts;repeat' with_reducible refine agV ?_ ?_
 all_goals first | (rw [in4];rfl) | (rw [agU];rfl) | (rw [an6];rfl) | (rw [an7];decide) | (as_aux_lemma=>kernel_rfl)
theorem WC:Tryz.prog.funcNamed "wringing/wringinglaw09.BenchParses"=some 4:=by kernel_rfl
theorem agW:Tryz.f4.isInstance Tryz.prog Rows.benchParsesRow.origin Rows.benchParsesRow.targs:=of_decide_eq_true (by kernel_rfl)
theorem agX:Tryz.f4.isWrapper Tryz.prog Rows.benchParsesRow.wrapper Rows.benchParsesRow.mainSum:=by unfold Func.isWrapper;first | (rw [if_pos (by decide +kernel)];kernel_rfl) | (rw [if_neg (by decide +kernel)];exact⟨rfl,rfl⟩)
theorem acU (h:∀os:Os,os.Started->∀(H:Type)(enc:TypeId×Value->H),(∀a b,enc a=enc b->a=b)->
   ReturnsInHanded Rows.benchParsesRow.assume Tryz.pinned.checked os 4 .any (Rows.benchParsesRow.pre enc Tryz.pinned.checked.prog Tryz.f4 (OpenSpec.ofChange Rows.benchParsesSpec)) (Rows.benchParsesSpec.post enc Tryz.pinned.checked.prog Tryz.f4 Rows.benchParsesRow.apart Rows.benchParsesRow.fresh Rows.benchParsesRow.handsOn Rows.benchParsesRow.again)):Rows.BenchParsesSaid:=
 OpenClaim.holds_of_wide (p:=Tryz.pinned) 4 Tryz.f4 rfl rfl rfl rfl rfl rfl rfl ⟨rfl,rfl,rfl,rfl,rfl⟩ rfl rfl rfl rfl rfl WC Tryz.func4 ZG agW agX h
end Go.Proofs.YteecnooaopfkeaaGreatDoor.TT
