/- How tables are told; no condition. -/
import Derived.Test.YtfnlnpllpfhhnaaGreatDoorPA5
import Derived.KernelRfl
import Derived.Test.YtfnlnpllpfhhnaaGreatDoorProg
set_option linter.all false
namespace Go.Proofs.YtfnlnpllpfhhnaaGreatDoor.TT
open Go Go.AM
set_option maxRecDepth 100000
noncomputable section
abbrev Q0 (f:FuncId)(sf:K3):Prop:=qG Tryz.prog f sf
theorem J7 (f:FuncId){sf:K3}(h:(XE Tryz.prog (kE Tryz.prog f) f).map (Sr false false)=some sf:=by kernel_rfl):Q0 f sf:=Nf h
theorem isP (f:FuncId){sf:K3}(h:(XE Tryz.prog (kE Tryz.prog f) f).map (Sr true false)=some sf:=by kernel_rfl):Q0 f sf:=Nf h
theorem isR (f:FuncId){sf:K3}(h:(XE Tryz.prog (kE Tryz.prog f) f).map (Sr false true)=some sf:=by kernel_rfl):Q0 f sf:=Nf h
noncomputable abbrev fE:=fQ Tryz.prog false false
noncomputable abbrev fP:=fQ Tryz.prog true false
noncomputable abbrev fR:=fQ Tryz.prog false true
noncomputable abbrev lE:=lQ Tryz.prog
theorem isQ {s:List Nat}{p r:Bool}{f:FuncId}(h:(XE Tryz.prog s f).isSome=true:=by kernel_rfl):Q0 f (cT Tryz.prog s p r f):=UZ h
abbrev aT:=Qf Tryz.prog false false
abbrev JM:=Qf Tryz.prog true false
abbrev TtR (r:Nat->Nat):={t:T (Option K3) // TOk Tryz.prog r t}
def G9 {r:Nat->Nat}:TtR r:=⟨.e,aAs⟩
def H6 {r:Nat->Nat}{f:K3}(a:TtR λi=>r (2*i+1))(x:Q0 (r 0) f)(b:TtR λi=>r (2*i+2)):TtR r:=⟨.nd a.1 (some f) b.1,an7 a.2 (aAv x) b.2⟩
def SH {r:Nat->Nat}(a:TtR λi=>r (2*i+1))(b:TtR λi=>r (2*i+2)):TtR r:=⟨.nd a.1 none b.1,an7 a.2 aAu b.2⟩
abbrev I (n:Nat):d9:=.int .i64 (.ofNat n)
abbrev J (n:Nat):d9:=.int .i64 (.negSucc n)
abbrev S (a b c d:Nat):d9:=.slice a b c d
abbrev U (a b c d:Nat):d9:=.sliceU a b c d
abbrev Z:d9:=.nilSlice
abbrev A (l:List d9):d9:=.agg l
abbrev V (l:List d9):d9:=.tuple l
abbrev C (n:Nat)(l:List (List d9)):NB:=.cells n l
abbrev tt:d9:=.bool true
abbrev ff:d9:=.bool false
end
end Go.Proofs.YtfnlnpllpfhhnaaGreatDoor.TT
