/- How tables are told; no condition. -/
import Derived.Test.YteecnooaopfkeaaGreatDoorPA5
import Derived.KernelRfl
import Derived.Test.YteecnooaopfkeaaGreatDoorProg
set_option linter.all false
namespace Go.Proofs.YteecnooaopfkeaaGreatDoor.TT
open Go Go.AM
set_option maxRecDepth 100000
noncomputable section
abbrev fI (f:FuncId)(sf:aW):Prop:=ql Tryz.prog f sf
theorem aQ (s:List Nat){f:FuncId}{sf:aW}(h:(Ri Tryz.prog s f).map (VF false false)=some sf:=by kernel_rfl):fI f sf:=Me h
theorem isP (s:List Nat){f:FuncId}{sf:aW}(h:(Ri Tryz.prog s f).map (VF true false)=some sf:=by kernel_rfl):fI f sf:=Me h
abbrev TtR (r:Nat->Nat):={t:T (Option aW) // TOk Tryz.prog r t}
def bO {r:Nat->Nat}:TtR r:=⟨.e,amU⟩
def jo {r:Nat->Nat}{f:aW}(a:TtR λi=>r (2*i+1))(x:fI (r 0) f)(b:TtR λi=>r (2*i+2)):TtR r:=⟨.nd a.1 (some f) b.1,ai5 a.2 (amX x) b.2⟩
def uL {r:Nat->Nat}(a:TtR λi=>r (2*i+1))(b:TtR λi=>r (2*i+2)):TtR r:=⟨.nd a.1 none b.1,ai5 a.2 amW b.2⟩
def mQ:Nat:=135970775971360484394915090947748719454930917409606069767497522059847045095744961007649194648089364473609848423089205174697696633867547092864193926120439742193368420602307115285366114976
def mP:Nat:=29484081443918291814387145163970867767752405265758663562397214012228857898107403280747001594166603905393727998364684099322799741366836784224448077262463689402236534784
def mR:Nat:=509258994083621521567111422102344540263054170626062418232565183997183009167350135911350272
end
end Go.Proofs.YteecnooaopfkeaaGreatDoor.TT
