/- How tables are told; no condition. -/
import Derived.Test.YteecnooaopfkeaaGreatDoorLA5
import Derived.KernelRfl
import Derived.Test.YteecnooaopfkeaaGreatDoorProg
set_option linter.unusedSimpArgs false
set_option linter.unusedVariables false
namespace Go.Proofs.YteecnooaopfkeaaGreatDoor.TT
open Go Go.AM
set_option maxRecDepth 100000
noncomputable section
abbrev IsF (f:FuncId)(sf:SFn):Prop:=uK Tryz.prog f sf
def cQ (s:List Nat)(p r:Bool)(f:FuncId):SFn:=cT Tryz.prog s p r f
theorem isQ {s:List Nat}{p r:Bool}{f:FuncId}(h:(cFn Tryz.prog s f).isSome=true:=by kernel_rfl):IsF f (cQ s p r f):=Mt h
theorem isE (s:List Nat){f:FuncId}{sf:SFn}(h:(cFn Tryz.prog s f).map (NG false false)=some sf:=by kernel_rfl):IsF f sf:=Gm h
theorem isP (s:List Nat){f:FuncId}{sf:SFn}(h:(cFn Tryz.prog s f).map (NG true false)=some sf:=by kernel_rfl):IsF f sf:=Gm h
abbrev TtR (r:Nat→Nat):={t:T (Option SFn) // TOk Tryz.prog r t}
def ttE {r:Nat→Nat}:TtR r:=⟨.e,ae5⟩
def ttN {r:Nat→Nat}{f:SFn}(a:TtR fun i=>r (2*i+1))(x:IsF (r 0) f)(b:TtR fun i=>r (2*i+2)):TtR r:=⟨.nd a.1 (some f) b.1,ad2 a.2 (ae7 x) b.2⟩
def ttO {r:Nat→Nat}(a:TtR fun i=>r (2*i+1))(b:TtR fun i=>r (2*i+2)):TtR r:=⟨.nd a.1 none b.1,ad2 a.2 ae6 b.2⟩
end
end Go.Proofs.YteecnooaopfkeaaGreatDoor.TT
