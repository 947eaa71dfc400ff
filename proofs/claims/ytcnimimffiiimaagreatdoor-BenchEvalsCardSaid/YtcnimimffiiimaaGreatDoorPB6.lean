/- How tables are told; no condition. -/
import Derived.Test.YtcnimimffiiimaaGreatDoorPA5
import Derived.KernelRfl
import Derived.Test.YtcnimimffiiimaaGreatDoorProg
set_option linter.all false
namespace Go.Proofs.YtcnimimffiiimaaGreatDoor.TT
open Go Go.AM
set_option maxRecDepth 100000
noncomputable section
abbrev P6 (f:FuncId)(sf:M9):Prop:=oO Tryz.prog f sf
theorem L9 (s:List Nat){f:FuncId}{sf:M9}(h:(MX Tryz.prog s f).map (Rj false false)=some sf:=by kernel_rfl):P6 f sf:=Pe h
theorem isP (s:List Nat){f:FuncId}{sf:M9}(h:(MX Tryz.prog s f).map (Rj true false)=some sf:=by kernel_rfl):P6 f sf:=Pe h
abbrev TtR (r:Nat->Nat):={t:T (Option M9) // TOk Tryz.prog r t}
def P8 {r:Nat->Nat}:TtR r:=⟨.e,akD⟩
def R7 {r:Nat->Nat}{f:M9}(a:TtR λi=>r (2*i+1))(x:P6 (r 0) f)(b:TtR λi=>r (2*i+2)):TtR r:=⟨.nd a.1 (some f) b.1,afk a.2 (akG x) b.2⟩
def Pp {r:Nat->Nat}(a:TtR λi=>r (2*i+1))(b:TtR λi=>r (2*i+2)):TtR r:=⟨.nd a.1 none b.1,afk a.2 akF b.2⟩
def mQ:Nat:=8498173498223429546443404124633499157761477499466085598025806503126494528544016647627103565040377087885078140176949225845282725538845914580919865936113748628260036428506153800668283008
def mP:Nat:=460688772561223309599799143256911914721172206306359803616649953385928470877138185444483882255374488887717612805919946636674655430730263565726816654272992752965517312
def mR:Nat:=533996758980227520598755426542388028675784537530709915542103559649019422409683673984345011388416
end
end Go.Proofs.YtcnimimffiiimaaGreatDoor.TT
