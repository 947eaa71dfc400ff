/- How tables are told; no condition. -/
import Derived.Test.YteecnooaopfkeaaGreatDoorPA5
import Derived.KernelRfl
import Derived.Test.YteecnooaopfkeaaGreatDoorProg
set_option linter.all false
namespace Go.Proofs.YteecnooaopfkeaaGreatDoor.TT
open Go Go.AM
set_option maxRecDepth 100000
noncomputable section
abbrev fI (f:FuncId)(sf:aT):Prop:=oU Tryz.prog f sf
theorem aB (s:List Nat){f:FuncId}{sf:aT}(h:(Oo Tryz.prog s f).map (Sn false false)=some sf:=by kernel_rfl):fI f sf:=JM h
theorem isP (s:List Nat){f:FuncId}{sf:aT}(h:(Oo Tryz.prog s f).map (Sn true false)=some sf:=by kernel_rfl):fI f sf:=JM h
abbrev TtR (r:Nat->Nat):={t:T (Option aT) // TOk Tryz.prog r t}
def dK {r:Nat->Nat}:TtR r:=⟨.e,ajn⟩
def jl {r:Nat->Nat}{f:aT}(a:TtR λi=>r (2*i+1))(x:fI (r 0) f)(b:TtR λi=>r (2*i+2)):TtR r:=⟨.nd a.1 (some f) b.1,aez a.2 (ajq x) b.2⟩
def Cw {r:Nat->Nat}(a:TtR λi=>r (2*i+1))(b:TtR λi=>r (2*i+2)):TtR r:=⟨.nd a.1 none b.1,aez a.2 ajp b.2⟩
def mQ:Nat:=135970775971360484394224057788906884490531218694267290813716110490533990016442624077356708148401992120164009633950811507041290448186932318163363731351350256936297106446903418256552640512
def mP:Nat:=29484081443918291814387145163970867767752405265758663562397214012228857898107403280747001594166603905393727998560843528553633515236725972887121792076176419027054510080
def mR:Nat:=509258994083621521567111422102344540263054170626062418232565183997183009167350135911350272
end
end Go.Proofs.YteecnooaopfkeaaGreatDoor.TT
