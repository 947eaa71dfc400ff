/- How tables are told; no condition. -/
import Derived.Test.YtpmfjipaheolgaaGreatDoorPA5
import Derived.KernelRfl
import Derived.Test.YtpmfjipaheolgaaGreatDoorProg
set_option linter.all false
namespace Go.Proofs.YtpmfjipaheolgaaGreatDoor.TT
open Go Go.AM
set_option maxRecDepth 100000
open Nat (beq ble blt)
noncomputable section
abbrev U2(f:FuncId)(sf:L6):Prop:=sO Tryz.prog f sf
theorem K9(f:FuncId){sf:L6}(h:(ZV Tryz.prog (mh Tryz.prog f) f).map (UJ false false)=some sf:=by kernel_rfl):U2 f sf:=Pg h
theorem isP(f:FuncId){sf:L6}(h:(ZV Tryz.prog (mh Tryz.prog f) f).map (UJ true false)=some sf:=by kernel_rfl):U2 f sf:=Pg h
theorem isR(f:FuncId){sf:L6}(h:(ZV Tryz.prog (mh Tryz.prog f) f).map (UJ false true)=some sf:=by kernel_rfl):U2 f sf:=Pg h
noncomputable abbrev fE:=fQ Tryz.prog false false
noncomputable abbrev fP:=fQ Tryz.prog true false
noncomputable abbrev fR:=fQ Tryz.prog false true
noncomputable abbrev lE:=lQ Tryz.prog
theorem isQ{s:cR}{p r:Bool}{f:FuncId}(h:(ZV Tryz.prog s f).isSome=true:=by kernel_rfl):U2 f (cT Tryz.prog s p r f):=Xd h
abbrev dG:=Qf Tryz.prog false false
abbrev Lu:=Qf Tryz.prog true false
abbrev TtR(r:Nat->Nat):={t:T (Option L6) // TOk Tryz.prog r t}
def H7{r:Nat->Nat}:TtR r:=⟨.e,atn⟩
def I8{r:Nat->Nat}{f:L6}(a:TtR λi=>r (2*i+1))(x:U2 (r 0) f)(b:TtR λi=>r (2*i+2)):TtR r:=⟨.nd a.1 (some f) b.1,akw a.2 (atq x) b.2⟩
def Cr{r:Nat->Nat}(a:TtR λi=>r (2*i+1))(b:TtR λi=>r (2*i+2)):TtR r:=⟨.nd a.1 none b.1,akw a.2 atp b.2⟩
abbrev I(n:Nat):j5:=.int .i64 (.ofNat n)
abbrev J(n:Nat):j5:=.int .i64 (.negSucc n)
abbrev S(a b c d:Nat):j5:=.slice a b c d
abbrev U(a b c d:Nat):j5:=.sliceU a b c d
abbrev Z:j5:=.nilSlice
abbrev A(l:cM):j5:=.agg l
abbrev V(l:cM):j5:=.tuple l
abbrev C(n:Nat)(l:List cM):NB:=.cells n l
abbrev tt:j5:=.bool true
abbrev ff:j5:=.bool false
end
end Go.Proofs.YtpmfjipaheolgaaGreatDoor.TT
