/- How tables are told; no condition. -/
import Derived.Test.YtfddpcckppibjaaGreatDoorPA5
import Derived.KernelRfl
import Derived.Test.YtfddpcckppibjaaGreatDoorProg
set_option linter.all false
namespace Go.Proofs.YtfddpcckppibjaaGreatDoor.TT
open Go Go.AM
set_option maxRecDepth 100000
noncomputable section
abbrev aW (f:FuncId)(sf:T9):Prop:=qx Tryz.prog f sf
theorem R3 (s:List Nat){f:FuncId}{sf:T9}(h:(OW Tryz.prog s f).map (TA false false)=some sf:=by kernel_rfl):aW f sf:=Rj h
theorem isP (s:List Nat){f:FuncId}{sf:T9}(h:(OW Tryz.prog s f).map (TA true false)=some sf:=by kernel_rfl):aW f sf:=Rj h
abbrev TtR (r:Nat->Nat):={t:T (Option T9) // TOk Tryz.prog r t}
def V9 {r:Nat->Nat}:TtR r:=⟨.e,alZ⟩
def dx {r:Nat->Nat}{f:T9}(a:TtR λi=>r (2*i+1))(x:aW (r 0) f)(b:TtR λi=>r (2*i+2)):TtR r:=⟨.nd a.1 (some f) b.1,ah0 a.2 (am2 x) b.2⟩
def vB {r:Nat->Nat}(a:TtR λi=>r (2*i+1))(b:TtR λi=>r (2*i+2)):TtR r:=⟨.nd a.1 none b.1,ah0 a.2 am1 b.2⟩
def mQ:Nat:=8498173498223429546443404124633499157761477499466085598025806503126494528544016647627103565040377087885078140176949225845283133942777573176837073550916774862293251250392953472207834776
def mP:Nat:=460688772561223309599799143256911914721172206306359803616649953385928470877138185444483882255374488887717612805919946636674655430730263565726816654272992752965517312
def mR:Nat:=533996758980227520598755426542388028675784537530709915542103559649019422409683673984345011388416
end
end Go.Proofs.YtfddpcckppibjaaGreatDoor.TT
