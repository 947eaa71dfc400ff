/- How tables are told; no condition. -/
import Derived.Test.YteecnooaopfkeaaGreatDoorPA5
import Derived.KernelRfl
import Derived.Test.YteecnooaopfkeaaGreatDoorProg
set_option linter.all false
namespace Go.Proofs.YteecnooaopfkeaaGreatDoor.TT
open Go Go.AM
set_option maxRecDepth 100000
noncomputable section
abbrev bN (f:FuncId)(sf:W9):Prop:=qg Tryz.prog f sf
theorem U3 (s:List Nat){f:FuncId}{sf:W9}(h:(OP Tryz.prog s f).map (SL false false)=some sf:=by kernel_rfl):bN f sf:=QT h
theorem isP (s:List Nat){f:FuncId}{sf:W9}(h:(OP Tryz.prog s f).map (SL true false)=some sf:=by kernel_rfl):bN f sf:=QT h
abbrev TtR (r:Nat->Nat):={t:T (Option W9) // TOk Tryz.prog r t}
def aI {r:Nat->Nat}:TtR r:=⟨.e,al9⟩
def dY {r:Nat->Nat}{f:W9}(a:TtR λi=>r (2*i+1))(x:bN (r 0) f)(b:TtR λi=>r (2*i+2)):TtR r:=⟨.nd a.1 (some f) b.1,agf a.2 (alc x) b.2⟩
def tH {r:Nat->Nat}(a:TtR λi=>r (2*i+1))(b:TtR λi=>r (2*i+2)):TtR r:=⟨.nd a.1 none b.1,agf a.2 alb b.2⟩
def mQ:Nat:=135970775971360484394915090947748719454930917409606069767497522059847045095744961007649194648089364473609848423089205174691114615638262222658271078308814810432374745373629393707468857112
def mP:Nat:=29484081443918291814387145163970867767752405265758663562397214012228857898107403280747001594166603905393727998364684099322799741366836784224448077262463689402221592576
def mR:Nat:=509258994083621521567111422102344540263054170626062418232565183997183009167350136179785728
end
end Go.Proofs.YteecnooaopfkeaaGreatDoor.TT
