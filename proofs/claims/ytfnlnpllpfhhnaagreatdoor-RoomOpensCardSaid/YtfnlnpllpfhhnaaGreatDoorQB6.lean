/- How tables are told; no condition. -/
import Derived.Test.YtfnlnpllpfhhnaaGreatDoorQA5
import Derived.KernelRfl
import Derived.Test.YtfnlnpllpfhhnaaGreatDoorProg
set_option linter.all false
namespace Go.Proofs.YtfnlnpllpfhhnaaGreatDoor.TT
open Go Go.AM
set_option maxRecDepth 100000
noncomputable section
abbrev R9 (f:FuncId)(sf:L6):Prop:=sI Tryz.prog f sf
theorem K9 (f:FuncId){sf:L6}(h:(YP Tryz.prog (mg Tryz.prog f) f).map (TR false false)=some sf:=by kernel_rfl):R9 f sf:=Oz h
theorem isP (f:FuncId){sf:L6}(h:(YP Tryz.prog (mg Tryz.prog f) f).map (TR true false)=some sf:=by kernel_rfl):R9 f sf:=Oz h
theorem isR (f:FuncId){sf:L6}(h:(YP Tryz.prog (mg Tryz.prog f) f).map (TR false true)=some sf:=by kernel_rfl):R9 f sf:=Oz h
noncomputable abbrev fE:=fQ Tryz.prog false false
noncomputable abbrev fP:=fQ Tryz.prog true false
noncomputable abbrev fR:=fQ Tryz.prog false true
noncomputable abbrev lE:=lQ Tryz.prog
theorem isQ {s:List Nat}{p r:Bool}{f:FuncId}(h:(YP Tryz.prog s f).isSome=true:=by kernel_rfl):R9 f (cT Tryz.prog s p r f):=VX h
abbrev bU:=Qf Tryz.prog false false
abbrev La:=Qf Tryz.prog true false
abbrev TtR (r:Nat->Nat):={t:T (Option L6) // TOk Tryz.prog r t}
def H9 {r:Nat->Nat}:TtR r:=⟨.e,aA4⟩
def I4 {r:Nat->Nat}{f:L6}(a:TtR λi=>r (2*i+1))(x:R9 (r 0) f)(b:TtR λi=>r (2*i+2)):TtR r:=⟨.nd a.1 (some f) b.1,amS a.2 (aA7 x) b.2⟩
def Ub {r:Nat->Nat}(a:TtR λi=>r (2*i+1))(b:TtR λi=>r (2*i+2)):TtR r:=⟨.nd a.1 none b.1,amS a.2 aA6 b.2⟩
abbrev I (n:Nat):d9:=.int .i64 (.ofNat n)
abbrev J (n:Nat):d9:=.int .i64 (.negSucc n)
abbrev S (a b c d:Nat):d9:=.slice a b c d
abbrev U (a b c d:Nat):d9:=.sliceU a b c d
abbrev Z:d9:=.nilSlice
abbrev A (l:List d9):d9:=.agg l
abbrev V (l:List d9):d9:=.tuple l
abbrev C (n:Nat)(l:List (List d9)):NB:=.cells n l
abbrev tt:d9:=.bool true
abbrev ff:d9:=.bool false
end
end Go.Proofs.YtfnlnpllpfhhnaaGreatDoor.TT
