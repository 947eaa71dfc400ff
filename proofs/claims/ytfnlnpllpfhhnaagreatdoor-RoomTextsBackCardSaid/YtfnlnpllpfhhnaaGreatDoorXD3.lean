/- The law RoomTextsBack answers true on every fact and text; conditions: the memory holds what the arguments say. -/
import Derived.Test.YtfnlnpllpfhhnaaGreatDoorXD2
set_option linter.unusedSimpArgs false
set_option linter.unusedVariables false
namespace Go.Proofs.YtfnlnpllpfhhnaaGreatDoor.TT
open Go Go.AM
set_option linter.unusedSimpArgs false
set_option linter.unusedVariables false
set_option maxRecDepth 100000
set_option maxHeartbeats 8000000
end Go.Proofs.YtfnlnpllpfhhnaaGreatDoor.TT
namespace Go.Proofs.YtfnlnpllpfhhnaaGreatDoor.TT
open Go Go.AM
set_option linter.unusedSimpArgs false
set_option linter.unusedVariables false
set_option maxRecDepth 100000
set_option maxHeartbeats 16000000
end Go.Proofs.YtfnlnpllpfhhnaaGreatDoor.TT
namespace Go.Proofs.YtfnlnpllpfhhnaaGreatDoor.TT
open Go Go.AM
set_option linter.unusedSimpArgs false
set_option linter.unusedVariables false
set_option maxRecDepth 100000
set_option maxHeartbeats 16000000
end Go.Proofs.YtfnlnpllpfhhnaaGreatDoor.TT
namespace Go.Proofs.YtfnlnpllpfhhnaaGreatDoor.TT
open Go Go.AM
set_option linter.unusedSimpArgs false
set_option linter.unusedVariables false
set_option maxRecDepth 100000
set_option maxHeartbeats 16000000
def Dis (a b:j6):Prop:=∀i,(∃o l c,a=.slice i o l c∨a=.sliceU i o l c)→¬ ∃o l c,b=.slice i o l c∨b=.sliceU i o l c
theorem Dis.symm {a b:j6}(h:Dis a b):Dis b a:=fun i h1 h2=>h i h2 h1
end Go.Proofs.YtfnlnpllpfhhnaaGreatDoor.TT
namespace Go.Proofs.YtfnlnpllpfhhnaaGreatDoor.TT
open Go Go.AM
set_option linter.unusedSimpArgs false
set_option linter.unusedVariables false
set_option maxRecDepth 100000
set_option maxHeartbeats 16000000
end Go.Proofs.YtfnlnpllpfhhnaaGreatDoor.TT
namespace Go.Proofs.YtfnlnpllpfhhnaaGreatDoor.TT
open Go Go.AM
set_option linter.unusedSimpArgs false
set_option linter.unusedVariables false
set_option maxRecDepth 100000
set_option maxHeartbeats 16000000
structure TxH (m:Mem)(r:FR)(n fu:Nat)(m1:Mem):Prop where
 g:G9 KW fu (n+17) (.func 49) [.str [102,97,99,116],.slice (m.next+1) 0 4 4] (ext m [D9 r.f.cells,.cells 1 4 (T.ofList [[.int .i64 r.f.room],[.int .i64 r.f.no],[.int .i64 r.f.known],[.int .i64 r.f.kind]])])=some [⟨.str (K9 O7 (K3 r)),m1⟩]
 E:Ext m m1
 q:m1.get m.next=some (D9 r.f.cells)
 nx:m.next+2≤m1.next
 s1:aL (K9 O7 (K3 r)) [10]=some (.str (K9 O7 (K3 r) ++ [10]))
 s2:aL (K9 O7 (K3 r) ++ [10]) (V9 r)=some (.str (K9 O7 (K3 r)++10::V9 r))
 s3:aL (K9 O7 (K3 r)++10::V9 r) [10]=some (.str (bD r))
end Go.Proofs.YtfnlnpllpfhhnaaGreatDoor.TT
namespace Go.Proofs.YtfnlnpllpfhhnaaGreatDoor.TT
open Go Go.AM
set_option linter.unusedSimpArgs false
set_option linter.unusedVariables false
set_option maxRecDepth 100000
set_option maxHeartbeats 16000000
end Go.Proofs.YtfnlnpllpfhhnaaGreatDoor.TT
namespace Go.Proofs.YtfnlnpllpfhhnaaGreatDoor.TT
open Go Go.AM
set_option linter.unusedSimpArgs false
set_option linter.unusedVariables false
set_option maxRecDepth 100000
set_option maxHeartbeats 16000000
end Go.Proofs.YtfnlnpllpfhhnaaGreatDoor.TT
namespace Go.Proofs.YtfnlnpllpfhhnaaGreatDoor.TT
open Go Go.AM
set_option linter.unusedSimpArgs false
set_option linter.unusedVariables false
set_option maxRecDepth 100000
set_option maxHeartbeats 16000000
end Go.Proofs.YtfnlnpllpfhhnaaGreatDoor.TT
namespace Go.Proofs.YtfnlnpllpfhhnaaGreatDoor.TT
open Go Go.AM
set_option linter.unusedSimpArgs false
set_option linter.unusedVariables false
set_option maxRecDepth 100000
set_option maxHeartbeats 16000000
end Go.Proofs.YtfnlnpllpfhhnaaGreatDoor.TT
namespace Go.Proofs.YtfnlnpllpfhhnaaGreatDoor.TT
open Go Go.AM
set_option linter.unusedSimpArgs false
set_option linter.unusedVariables false
set_option maxRecDepth 100000
set_option maxHeartbeats 16000000
end Go.Proofs.YtfnlnpllpfhhnaaGreatDoor.TT
namespace Go.Proofs.YtfnlnpllpfhhnaaGreatDoor.TT
open Go Go.AM
set_option linter.unusedSimpArgs false
set_option linter.unusedVariables false
set_option maxRecDepth 100000
set_option maxHeartbeats 8000000
end Go.Proofs.YtfnlnpllpfhhnaaGreatDoor.TT
namespace Go.Proofs.YtfnlnpllpfhhnaaGreatDoor.TT
open Go Go.AM
set_option linter.unusedSimpArgs false
set_option linter.unusedVariables false
set_option maxRecDepth 100000
set_option maxHeartbeats 16000000
end Go.Proofs.YtfnlnpllpfhhnaaGreatDoor.TT
namespace Go.Proofs.YtfnlnpllpfhhnaaGreatDoor.TT
open Go Go.AM
set_option linter.unusedSimpArgs false
set_option linter.unusedVariables false
set_option maxRecDepth 100000
set_option maxHeartbeats 4000000
end Go.Proofs.YtfnlnpllpfhhnaaGreatDoor.TT
namespace Go.Proofs.YtfnlnpllpfhhnaaGreatDoor.TT
open Go Go.AM
set_option linter.unusedSimpArgs false
set_option linter.unusedVariables false
set_option maxRecDepth 100000
set_option maxHeartbeats 40000000
theorem ahP (n fu:Nat)(m:Mem):G9 KW fu (n+1) (.func 8) [] m=some [⟨.bool true,m⟩]:=by
 rw [eY]
 have h:KW.fns 8=some {f8 with pure:=true}:=rfl
 simp only [h,P5,bO]
 rfl
def zR:FR:=⟨zF 0 0 0 0,[],[],[]⟩
end Go.Proofs.YtfnlnpllpfhhnaaGreatDoor.TT
namespace Go.Proofs.YtfnlnpllpfhhnaaGreatDoor.TT
open Go Go.AM
set_option linter.unusedSimpArgs false
set_option linter.unusedVariables false
set_option maxRecDepth 100000
set_option maxHeartbeats 40000000
theorem ahQ {m:Mem}(hm:m.Ok)(hl:m.lim≤m.next){r:FR}(hr:kP m r)(s:By)(n fu:Nat)(hfu:5001≤fu):
  ∃m',G9 KW fu (n+20) (.func 4) [.agg r.f.cells,.str s] m=some [⟨.bool true,m'⟩]∧Ext m m':=by
 have E0:=H6 hm [D9 r.f.cells]
 have c7:=Xo (K7 hm [D9 r.f.cells]) (hr.ext E0) (n+18) fu
 have c8:=fun m=>ahP (n+18) fu m
 have E1:=H6 hm [D9 r.f.cells,D9 r.f.cells]
 by_cases hsm':r.small=false
 ·refine⟨_,?_,E1⟩
  rw [enter (sf:=f4) rfl rfl]
  simp [f4,G5,trD,J4,A8,u7,o7,A9,C8,j3 hm,j5 hm,D8 hm hl,o9 hm hl,l8 hm,l6 hm,G6,o8,w9,z8,L6,c7,c8,hsm']
 have hsm:r.small=true:=by cases h:r.small with
  | true=>rfl
  | false=>exact absurd h hsm'
 by_cases hlen:1000<s.length
 ·have hlen':(1000:Int)<(s.length:Int):=by omega
  refine⟨_,?_,E1⟩
  rw [enter (sf:=f4) rfl rfl]
  simp [f4,G5,trD,J4,A8,u7,o7,A9,C8,j3 hm,j5 hm,D8 hm hl,o9 hm hl,l8 hm,l6 hm,G6,o8,w9,z8,L6,c7,c8,hsm,hlen']
 have hlen':¬ (1000:Int)<(s.length:Int):=by omega
 have hsm2:=hsm
 simp only [FR.small,Bool.and_eq_true,decide_eq_true_eq] at hsm2
 obtain⟨la,lb,lc⟩:=hsm2
 obtain⟨m2,g2,E2⟩:=XC E1.ok (by rw [E1.lim];have:=E1.next;omega) (hr.ext E1) (by omega) (by omega) (by omega) (n+7) fu (by omega)
 have E12:=E1.trans E2
 have hm2:=E2.ok
 have lim2:m2.lim≤m2.next:=by rw [E12.lim];have:=E12.next;omega
 have q2:m2.get m.next=some (D9 r.f.cells):=by rw [E2.old _ (by simp),j3 hm];rfl
 have n2:m.next+2≤m2.next:=by have:=E2.next;simpa using this
 have last:∀(M:Mem),M.Ok→M.lim≤M.next→∃(e:Int) (x:FR) (M1:Mem),G9 KW fu (n+19) (.func 11) [.str s] M=some [⟨.tuple [.agg x.f.cells,.int .i64 e],M1⟩]∧Ext M M1∧Q7 x.f.cells=true∧
   ((e=7)∨(e=0∧∃M2,G9 KW fu (n+19) (.func 9) [.agg x.f.cells] (ext M1 [D9 x.f.cells])=some [⟨.tuple [.str s,.int .i64 0],M2⟩]∧Ext (ext M1 [D9 x.f.cells]) M2)):=fun M hM hlM=>by
  rcases Nf hM hlM s (by omega) (n+6) fu (by omega) with⟨x,M1,g,E,hx,xa,xb,xc,ht⟩ | ⟨M1,g,E,hno⟩
  ·have E':=H6 E.ok [D9 x.f.cells]
   obtain⟨M2,g9,E9⟩:=XC E'.ok (by rw [E'.lim,E.lim];have:=E.next;have:=E'.next;omega) (hx.ext E') xa xb xc (n+7) fu (by omega)
   rw [if_pos ht.1,ht.2] at g9
   exact⟨0,x,M1,g,E,zo hx,.inr ⟨rfl,M2,g9,E9⟩⟩
  ·exact⟨7,zR,M1,g,E,rfl,.inl rfl⟩
 by_cases hv:r.valid=true
 ·rw [if_pos hv] at g2
  have ht:vM (bD r) r:=⟨hv,rfl⟩
  rcases Nf hm2 lim2 (bD r) (by have:=Jd hv;omega) (n+6) fu (by omega) with⟨x,m3,g3,E3,hx,xa,xb,xc,hxt⟩ | ⟨m3,g3,E3,hno⟩
  case inr=>exact absurd ht (hno r)
  have g3:G9 KW fu (n+19) (.func 11) [.str (bD r)] m2=_:=g3
  have hm3:=E3.ok
  have E13:=E12.trans E3
  have lim3:m3.lim≤m3.next:=by rw [E13.lim];have:=E13.next;omega
  have E4:=H6 hm3 [D9 x.f.cells]
  have hsame:aC x.f r.f x.a x.b x.l r.a r.b r.l=true:=Ja.2 (Fx hxt ht)
  have q3:m3.get m.next=some (D9 r.f.cells):=by rw [E3.old _ (by omega)];exact q2
  have q4:∀bs,(ext m3 bs).get m.next=some (D9 r.f.cells):=fun bs=>by rw [J2 hm3 _ (by have:=E3.next;omega)];exact q3
  have hx4:=(hx.ext E4).at' xa xb xc
  have hr4:=(hr.ext (E13.trans E4)).at' (by omega) (by omega) (by omega)
  have lim4:(ext m3 [D9 x.f.cells]).lim≤(ext m3 [D9 x.f.cells]).next:=by rw [E4.lim,E13.lim];have:=E13.next;have:=E4.next;omega
  obtain⟨m5,g5,E5⟩:∃m5,G9 KW fu (n+19) (.func 19) [.agg x.f.cells,.agg r.f.cells] (ext m3 [D9 x.f.cells])=some [⟨.bool true,m5⟩]∧Ext (ext m3 [D9 x.f.cells]) m5:=⟨_,by rw [← hsame];exact rV E4.ok lim4 hx4 hr4 (n+16) fu (by omega),H6 E4.ok _⟩
  have x5:m5.get m3.next=some (D9 x.f.cells):=by rw [E5.old _ (by simp),j3 hm3];rfl
  have r5:m5.get m.next=some (D9 r.f.cells):=by rw [E5.old _ (by have:=E3.next;simp;omega)];exact q4 _
  have lim5:m5.lim≤m5.next:=by rw [E5.lim];have:=E5.next;omega
  obtain⟨m6,g6,E6⟩:∃m6,G9 KW fu (n+19) (.func 13) [.agg x.f.cells,.agg r.f.cells] m5=some [⟨.bool true,m6⟩]∧Ext m5 m6:=by
   have h:=Xh E5.ok (hx4.ext E5) (hr4.ext E5) (n+16) fu (by omega)
   rw [hsame] at h
   exact⟨_,h,H6 E5.ok _⟩
  have E06:=(((E13.trans E4).trans E5).trans E6)
  have lim6:m6.lim≤m6.next:=by rw [E6.lim];have:=E6.next;omega
  obtain⟨e,y,M1,g,E,h1y,hcase⟩:=last m6 E6.ok lim6
  have hM1:=E.ok
  have limM:M1.lim≤M1.next:=by rw [E.lim];have:=E.next;omega
  have h1x:=zo hx
  rcases hcase with rfl | ⟨rfl,M2,g9,E9⟩
  ·refine⟨ext M1 [D9 y.f.cells],?_,(E06.trans E).trans (H6 hM1 _)⟩
   rw [enter (sf:=f4) rfl rfl]
   simp [f4,G5,trD,J4,A8,u7,o7,A9,C8,j3 hm,j5 hm,D8 hm hl,o9 hm hl,l8 hm,l6 hm,G6,o8,w9,z8,L6,c7,c8,hsm,hlen',g2,q2,h1x,h1y,g3,q3,q4,g5,x5,r5,g6,g,j3 hm3,j5 hm3,D8 hm3 lim3,o9 hm3 lim3,l8 hm3,l6 hm3,j3 hM1,j5 hM1,D8 hM1 limM,o9 hM1 limM,l8 hM1,l6 hM1]
  ·refine⟨M2,?_,((E06.trans E).trans (H6 hM1 _)).trans E9⟩
   rw [enter (sf:=f4) rfl rfl]
   simp [f4,G5,trD,J4,A8,u7,o7,A9,C8,j3 hm,j5 hm,D8 hm hl,o9 hm hl,l8 hm,l6 hm,G6,o8,w9,z8,L6,c7,c8,hsm,hlen',g2,q2,h1x,h1y,g3,q3,q4,g5,x5,r5,g6,g,g9,j3 hm3,j5 hm3,D8 hm3 lim3,o9 hm3 lim3,l8 hm3,l6 hm3,j3 hM1,j5 hM1,D8 hM1 limM,o9 hM1 limM,l8 hM1,l6 hM1]
 ·rw [if_neg hv] at g2
  obtain⟨e,x,M1,g,E,h1x,hcase⟩:=last m2 hm2 lim2
  have hM1:=E.ok
  have limM:M1.lim≤M1.next:=by rw [E.lim];have:=E.next;omega
  rcases hcase with rfl | ⟨rfl,M2,g9,E9⟩
  ·refine⟨ext M1 [D9 x.f.cells],?_,(E12.trans E).trans (H6 hM1 _)⟩
   rw [enter (sf:=f4) rfl rfl]
   simp [f4,G5,trD,J4,A8,u7,o7,A9,C8,j3 hm,j5 hm,D8 hm hl,o9 hm hl,l8 hm,l6 hm,G6,o8,w9,z8,L6,c7,c8,hsm,hlen',g2,q2,h1x,g,j3 hM1,j5 hM1,D8 hM1 limM,o9 hM1 limM,l8 hM1,l6 hM1]
  ·refine⟨M2,?_,((E12.trans E).trans (H6 hM1 _)).trans E9⟩
   rw [enter (sf:=f4) rfl rfl]
   simp [f4,G5,trD,J4,A8,u7,o7,A9,C8,j3 hm,j5 hm,D8 hm hl,o9 hm hl,l8 hm,l6 hm,G6,o8,w9,z8,L6,c7,c8,hsm,hlen',g2,q2,h1x,g,g9,j3 hM1,j5 hM1,D8 hM1 limM,o9 hM1 limM,l8 hM1,l6 hM1]
end Go.Proofs.YtfnlnpllpfhhnaaGreatDoor.TT
