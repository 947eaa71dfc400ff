/- How tables are told; no condition. -/
import Derived.Test.YtfddpcckppibjaaGreatDoorPA5
import Derived.KernelRfl
import Derived.Test.YtfddpcckppibjaaGreatDoorProg
set_option linter.all false
namespace Go.Proofs.YtfddpcckppibjaaGreatDoor.TT
open Go Go.AM
set_option maxRecDepth 100000
noncomputable section
abbrev X9 (f:FuncId)(sf:R5):Prop:=qF Tryz.prog f sf
theorem Q0 (s:List Nat){f:FuncId}{sf:R5}(h:(PE Tryz.prog s f).map (Un false false)=some sf:=by kernel_rfl):X9 f sf:=RX h
theorem isP (s:List Nat){f:FuncId}{sf:R5}(h:(PE Tryz.prog s f).map (Un true false)=some sf:=by kernel_rfl):X9 f sf:=RX h
abbrev TtR (r:Nat->Nat):={t:T (Option R5) // TOk Tryz.prog r t}
def V3 {r:Nat->Nat}:TtR r:=⟨.e,an2⟩
def aO {r:Nat->Nat}{f:R5}(a:TtR λi=>r (2*i+1))(x:X9 (r 0) f)(b:TtR λi=>r (2*i+2)):TtR r:=⟨.nd a.1 (some f) b.1,ahT a.2 (an5 x) b.2⟩
def Gy {r:Nat->Nat}(a:TtR λi=>r (2*i+1))(b:TtR λi=>r (2*i+2)):TtR r:=⟨.nd a.1 none b.1,ahT a.2 an4 b.2⟩
def mQ:Nat:=8498173498223429546443404124633499157761477499466085598025806503126494528544016647627103565040377087885078140176949225845282732217461481674463510661790092957973038913969484148317700272
def mP:Nat:=460688772561223309599799143256911914721172206306359803616649953385928470877138185444483882255374488887717612805919946636674655430730263565726816654272992752965582848
def mR:Nat:=533996758980227520598755426542388028675784537530709915542103559649019422409683673984345011388416
end
end Go.Proofs.YtfddpcckppibjaaGreatDoor.TT
