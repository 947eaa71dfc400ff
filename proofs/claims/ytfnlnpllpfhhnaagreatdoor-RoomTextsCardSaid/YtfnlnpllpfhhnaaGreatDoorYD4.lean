/- The law RoomTexts answers true on every fact, number and text; conditions: the memory holds what the arguments say. -/
import Derived.Test.YtfnlnpllpfhhnaaGreatDoorYD3
set_option linter.unusedSimpArgs false
set_option linter.unusedVariables false
namespace Go.Proofs.YtfnlnpllpfhhnaaGreatDoor.TT
open Go Go.AM
set_option maxRecDepth 100000
set_option maxHeartbeats 16000000
theorem ML {m:Mem}(hm:m.Ok)(hl:m.lim≤m.next)(s:By)(hs:s.length≤1000)(h3n:(splitB 10 s).length≠3)(n fu:Nat)(hfu:5001≤fu):
  (∃r m',D6 KW fu (n+19) (.func 12) [.str s] m=some [⟨.tuple [.agg r.f.cells,.bool true],m'⟩]∧Ext m m'∧eu m' r∧r.a.length<1000∧r.b.length<1000∧r.l.length<1000∧iB s r)∨
  (∃m',D6 KW fu (n+19) (.func 12) [.str s] m=some [⟨.tuple [.agg zr,.bool false],m'⟩]∧Ext m m'∧∀r,¬ iB s r):=by
 have h3:¬ ((splitB 10 s).length:Int)=3:=by omega
 have h2000:¬ (2000:Int)<(s.length:Int):=by omega
 have hs10:s.length≤10000:=by omega
 have E0:=D8 hm [A9 zr]
 have ga0:(ext m [A9 zr]).get m.next=some (A9 zr):=by rw [l5 hm];rfl
 obtain⟨v0,m1,g1,E1,o0⟩:=Hl E0.ok (by simp;omega) s hs10 10 (n+17) fu (by omega)
 have g1:D6 KW fu (n+18) (.func 42) [.str s,.int .u8 10] (ext m [A9 zr])=some [⟨v0,m1⟩]:=g1
 have E01:=E0.trans E1
 have lim1:m1.lim≤m1.next:=by rw [E01.lim];have:=E01.next;omega
 have nx1:m.next+1≤m1.next:=by have:=E1.next;simpa using this
 have len0:=o0.vs.len
 rw [R3] at len0
 have pan0:=fun {β:Type} (p:j5→β) q=>o0.vs.pan p q
 have ga1:m1.get m.next=some (A9 zr):=by rw [E1.old _ (by simp)];exact ga0
 obtain⟨N,st,gN,X⟩:=U9 (off:=0) (vs:=zr) E1.ok (by omega) (by rw [E01.lim];exact hl) ga1 (by simp) (by simp) rfl
 have gN:N.get m.next=some (A9 zr):=by rw [gN];simp
 refine .inr ⟨N,?_,K6 E01 X (D5 _),MJ h3n⟩
 rw [enter (sf:=f12) rfl rfl]
 simp (maxSteps:=3000000) [f12,C8,trD,G9,o9,l6,j3,x9,z8,O6 hm hl,C9,j6,o7,o8,J5,-eF,g1,len0,pan0,h3,h3n,h2000,st,gN]
theorem abo {m:Mem}(hm:m.Ok)(hl:m.lim≤m.next)(s:By)(hs:s.length≤1000)(n fu:Nat)(hfu:5001≤fu):
  (∃r m',D6 KW fu (n+19) (.func 12) [.str s] m=some [⟨.tuple [.agg r.f.cells,.bool true],m'⟩]∧Ext m m'∧eu m' r∧r.a.length<1000∧r.b.length<1000∧r.l.length<1000∧iB s r)∨
  (∃m',D6 KW fu (n+19) (.func 12) [.str s] m=some [⟨.tuple [.agg zr,.bool false],m'⟩]∧Ext m m'∧∀r,¬ iB s r):=by
 by_cases h3:(splitB 10 s).length=3
 ·obtain⟨l0,l1,l2,hsp⟩:∃l0 l1 l2,splitB 10 s=[l0,l1,l2]:=by
   match h:splitB 10 s,h3 with
   | [a,b,c],_=>exact⟨a,b,c,rfl⟩
   | [],h3=>cases h3
   | [_],h3=>cases h3
   | [_,_],h3=>cases h3
   | _ :: _ :: _ :: _ :: _,h3=>simp at h3
  exact VA hm hl s hs hsp n fu hfu
 ·exact ML hm hl s hs h3 n fu hfu
set_option maxHeartbeats 40000000
theorem al5 (n fu:Nat)(m:Mem):D6 KW fu (n+1) (.func 8) [] m=some [⟨.bool true,m⟩]:=by
 rw [iw]
 have h:KW.fns 8=some {f8 with pure:=true}:=rfl
 simp only [h,O0,aJ]
 rfl
def zR:FR:=⟨zF 0 0 0 0,[],[],[]⟩
theorem abp (m:Mem):eu m zR:=⟨.inl ⟨rfl,rfl⟩,.inl ⟨rfl,rfl⟩,.inl ⟨rfl,rfl⟩,⟨by decide,by decide⟩,⟨by decide,by decide⟩,⟨by decide,by decide⟩⟩
open Classical in
theorem both {m:Mem}(hm:m.Ok)(hl:m.lim≤m.next)(s:By)(hs:s.length≤1000)(n fu:Nat)(hfu:5001≤fu):
  ∃r1 r2 m1 m2,D6 KW fu (n+19) (.func 11) [.str s] m=some [⟨.tuple [.agg r1.f.cells,.int .i64 (if (∃r,iB s r) then 0 else 7)],m1⟩]∧Ext m m1∧
   D6 KW fu (n+19) (.func 12) [.str s] (ext m1 [A9 r1.f.cells])=some [⟨.tuple [.agg r2.f.cells,.bool (decide (∃r,iB s r))],m2⟩]∧Ext (ext m1 [A9 r1.f.cells]) m2∧
   eu m2 r1∧eu m2 r2∧r1.a.length<1000∧r1.b.length<1000∧r1.l.length<1000∧r2.a.length<1000∧r2.b.length<1000∧r2.l.length<1000∧r1.cn=r2.cn:=by
 have fin:∀(r1:FR) (m1:Mem),Ext m m1→eu m1 r1→(∃r2 m2,D6 KW fu (n+19) (.func 12) [.str s] (ext m1 [A9 r1.f.cells])=some [⟨.tuple [.agg r2.f.cells,.bool (decide (∃r,iB s r))],m2⟩]∧Ext (ext m1 [A9 r1.f.cells]) m2∧eu m2 r1∧eu m2 r2∧r2.a.length<1000∧r2.b.length<1000∧r2.l.length<1000∧((iB s r2)∨((∀r,¬ iB s r)∧r2=zR))):=fun r1 m1 E1 h1=>by
  have E2:=D8 E1.ok [A9 r1.f.cells]
  rcases abo E2.ok (by rw [E2.lim,E1.lim];have:=E1.next;have:=E2.next;omega) s hs n fu hfu with⟨r2,m2,g,E,hr,la,lb,lc,ht⟩ | ⟨m2,g,E,hno⟩
  ·refine⟨r2,m2,?_,E,(h1.ext E2).ext E,hr,la,lb,lc,.inl ht⟩
   rw [decide_eq_true (⟨r2,ht⟩:∃r,iB s r)];exact g
  ·refine⟨zR,m2,?_,E,(h1.ext E2).ext E,abp _,by decide,by decide,by decide,.inr ⟨hno,rfl⟩⟩
   rw [decide_eq_false (fun ⟨r,h⟩=>hno r h:¬ ∃r,iB s r)];exact g
 rcases abf hm hl s hs (n+6) fu (by omega) with⟨r1,m1,g,E,hr,la,lb,lc,ht⟩ | ⟨m1,g,E,hno⟩
 ·obtain⟨r2,m2,g2,E2,h1,h2,la2,lb2,lc2,h⟩:=fin r1 m1 E hr
  refine⟨r1,r2,m1,m2,by rw [if_pos ⟨r1,ht⟩];exact g,E,g2,E2,h1,h2,la,lb,lc,la2,lb2,lc2,?_⟩
  rcases h with h | ⟨h,_⟩
  ·exact Jj ht h
  ·exact absurd ht (h r1)
 ·obtain⟨r2,m2,g2,E2,h1,h2,la2,lb2,lc2,h⟩:=fin zR m1 E (abp _)
  refine⟨zR,r2,m1,m2,by rw [if_neg (fun ⟨r,h⟩=>hno r h)];exact g,E,g2,E2,h1,h2,by decide,by decide,by decide,la2,lb2,lc2,?_⟩
  rcases h with h | ⟨_,rfl⟩
  ·exact absurd h (hno r2)
  ·rfl
end Go.Proofs.YtfnlnpllpfhhnaaGreatDoor.TT
namespace Go.Proofs.YtfnlnpllpfhhnaaGreatDoor.TT
open Go Go.AM
set_option linter.unusedSimpArgs false
set_option linter.unusedVariables false
set_option maxRecDepth 100000
set_option maxHeartbeats 80000000
open Classical in
theorem al6 {m:Mem}(hm:m.Ok)(hl:m.lim≤m.next){r:FR}(hr:eu m r)(no:Int)(s:By)(n fu:Nat)(hfu:5001≤fu):
  ∃m',D6 KW fu (n+20) (.func 3) [.agg r.f.cells,.int .i64 no,.str s] m=some [⟨.bool true,m'⟩]∧Ext m m':=by
 have E0:=D8 hm [A9 r.f.cells]
 have c7:=aaR (J4 hm [A9 r.f.cells]) (hr.ext E0) (n+18) fu
 have c8:=fun m=>al5 (n+18) fu m
 have E1:=D8 hm [A9 r.f.cells,A9 r.f.cells]
 by_cases hsm':r.small=false
 ·refine⟨_,?_,E1⟩
  rw [enter (sf:=f3) rfl rfl]
  simp [f3,C8,trD,G9,o9,l6,j3,x9,z8,O6 hm hl,C9,j6,o7,o8,J5,c7,c8,hsm']
 have hsm:r.small=true:=by cases h:r.small with
  | true=>rfl
  | false=>exact absurd h hsm'
 by_cases hlen:1000<s.length
 ·have hlen':(1000:Int)<(s.length:Int):=by omega
  refine⟨_,?_,E1⟩
  rw [enter (sf:=f3) rfl rfl]
  simp [f3,C8,trD,G9,o9,l6,j3,x9,z8,O6 hm hl,C9,j6,o7,o8,J5,c7,c8,hsm,hlen']
 have hlen':¬ (1000:Int)<(s.length:Int):=by omega
 have hsm2:=hsm
 simp only [FR.small,avv,decide_eq_true_eq] at hsm2
 obtain⟨la,lb,lc⟩:=hsm2
 obtain⟨m2,g2,E2⟩:=akP E1.ok (by rw [E1.lim];have:=E1.next;omega) (hr.ext E1) (by omega) (by omega) (by omega) (n+7) fu (by omega)
 have E12:=E1.trans E2
 have n2:m.next+2≤m2.next:=by have:=E2.next;simpa using this
 have q2:m2.get m.next=some (A9 r.f.cells):=by rw [E2.old _ (by simp),l5 hm];rfl
 obtain⟨v,e,m3,g3,E3,hrec⟩:=ab6 E12.ok (by rw [E12.lim];omega) (hr.ext E12) (by omega) (by omega) (by omega) no (n+7) fu (by omega)
 have E13:=E12.trans E3
 have n3:=E3.next
 have q3:m3.get m.next=some (A9 r.f.cells):=by rw [E3.old _ (by omega)];exact q2
 obtain⟨r1,r2,m4,m5,g4,E4,g5,E5,w1,w2,a1,a2,a3,b1,b2,b3,hcn⟩:=both E13.ok (by rw [E13.lim];omega) s (by omega) n fu hfu
 have hm4:=E4.ok
 have hm5:=E5.ok
 have n4:=E4.next
 have E14:=E13.trans E4
 have lim4:m4.lim≤m4.next:=by rw [E14.lim];omega
 have E4x:=D8 hm4 [A9 r1.f.cells]
 have E15:=(E14.trans E4x).trans E5
 have n5:m4.next+1≤m5.next:=by have:=E5.next;simpa using this
 have lim5:m5.lim≤m5.next:=by rw [E15.lim];omega
 have h1a:=xE w1
 have h1b:=xE w2
 have a5:m5.get m4.next=some (A9 r1.f.cells):=by rw [E5.old _ (by simp),l5 hm4];rfl
 have E6:=D8 hm5 [A9 r2.f.cells]
 have b7:∀bs,(ext m5 bs).get m4.next=some (A9 r1.f.cells):=fun bs=>by rw [G6 hm5 _ (by omega)];exact a5
 have q5:m5.get m.next=some (A9 r.f.cells):=by rw [E5.old _ (by simp;omega),G6 hm4 _ (by omega),E4.old _ (by omega)];exact q3
 have hsame:bD r1.f r2.f r1.a r1.b r1.l r2.a r2.b r2.l=true:=Mf.2 hcn
 obtain⟨m7,g7,E7⟩:∃m7,D6 KW fu (n+19) (.func 13) [.agg r1.f.cells,.agg r2.f.cells] (ext m5 [A9 r2.f.cells])=some [⟨.bool true,m7⟩]∧Ext (ext m5 [A9 r2.f.cells]) m7:=by
  have h:=QX E6.ok ((w1.ext E6).at' a1 a2 a3) ((w2.ext E6).at' b1 b2 b3) (n+16) fu (by omega)
  rw [hsame] at h
  exact⟨_,h,D8 E6.ok _⟩
 have E17:=(E15.trans E6).trans E7
 have lim7:m7.lim≤m7.next:=by rw [E17.lim];have:=E7.next;have:=E6.next;omega
 have q6:∀bs,(ext m5 bs).get m.next=some (A9 r.f.cells):=fun bs=>by rw [G6 hm5 _ (by omega)];exact q5
 have q7:m7.get m.next=some (A9 r.f.cells):=by rw [E7.old _ (by simp;omega)];exact q6 _
 have hr7:=hr.ext E17
 obtain⟨m8,g8,E8⟩:=QY E7.ok lim7 (hr7.at' (by omega) (by omega) (by omega)) (n+12) fu (by omega) hr.ga hr.gb
 have g8:D6 KW fu (n+19) (.func 14) [.agg r.f.cells] m7=some [⟨.bool r.valid,m8⟩]:=g8
 have E18:=E17.trans E8
 have q8:m8.get m.next=some (A9 r.f.cells):=by rw [E8.old _ (by have:=E7.next;simp at this;omega)];exact q7
 have lim8:m8.lim≤m8.next:=by rw [E8.lim];have:=E8.next;omega
 have g6:=g5
 by_cases hv:r.valid=true
 ·rw [hv] at g8
  rw [if_pos hv] at g2
  obtain⟨m9,g9,E9⟩:=MH E8.ok lim8 (hr7.ext E8) hv (n+1) fu (by omega)
  have g9:D6 KW fu (n+19) (.func 15) [.agg r.f.cells] m8=some [⟨.str (N9 r),m9⟩]:=g9
  have E19:=E18.trans E9
  have q9:m9.get m.next=some (A9 r.f.cells):=by rw [E9.old _ (by have:=E7.next;have:=E8.next;simp at *;omega)];exact q8
  have c16:=aH (n+18) fu no 1 200 m9
  rcases hrec with⟨h1,_,rfl,hvs⟩ | ⟨h1,rfl,rfl⟩
  ·have e16:(decide (1≤no)&&decide (no≤200))=true:=by simp;exact h1
   rw [e16] at c16
   have lim9:m9.lim≤m9.next:=by rw [E9.lim];have:=E9.next;omega
   obtain⟨v',m10,g10,E10,hvs'⟩:=abn E9.ok lim9 ((hr7.ext E8).ext E9) hv no (by unfold Sm;omega) n fu (by omega)
   have hvs2:=hvs.ext (((((E4.trans E4x).trans E5).trans E6).trans E7).trans (E8.trans (E9.trans E10)))
   have c17:=abk hvs2 hvs' (by
    have:=oF _ _ (D5 (N9 r).length)
    have:=xB hv
    simp [afa];omega) (n+18) fu hfu
   have pv:=fun {β:Type} (p:j5→β) q=>hvs.pan p q
   have pv':=fun {β:Type} (p:j5→β) q=>hvs'.pan p q
   refine⟨m10,?_,E19.trans E10⟩
   rw [enter (sf:=f3) rfl rfl]
   by_cases hT:∃r,iB s r
   ·simp only [if_pos hT,decide_eq_true hT] at g4 g5 g6
    simp [f3,C8,trD,G9,o9,l6,j3,x9,z8,O6 hm hl,C9,j6,o7,o8,J5,c7,c8,hsm,hlen',g2,q2,g3,q3,g4,g5,h1a,h1b,g6,O6 hm4 lim4,O6 hm5 lim5,a5,g7,b7,q6,q7,g8,q8,g9,q9,c16,g10,c17,pv,pv']
   ·simp only [if_neg hT,decide_eq_false hT] at g4 g5 g6
    simp [f3,C8,trD,G9,o9,l6,j3,x9,z8,O6 hm hl,C9,j6,o7,o8,J5,c7,c8,hsm,hlen',g2,q2,g3,q3,g4,g5,h1a,h1b,g6,O6 hm4 lim4,O6 hm5 lim5,a5,g7,b7,q6,q7,g8,q8,g9,q9,c16,g10,c17,pv,pv']
  ·have e16:(decide (1≤no)&&decide (no≤200))=false:=by
    rw [avO];intro h;simp at h;exact h1 ⟨h,hv⟩
   rw [e16] at c16
   refine⟨m9,?_,E19⟩
   rw [enter (sf:=f3) rfl rfl]
   by_cases hT:∃r,iB s r
   ·simp only [if_pos hT,decide_eq_true hT] at g4 g5 g6
    simp [f3,C8,trD,G9,o9,l6,j3,x9,z8,O6 hm hl,C9,j6,o7,o8,J5,c7,c8,hsm,hlen',g2,q2,g3,q3,g4,g5,h1a,h1b,g6,O6 hm4 lim4,O6 hm5 lim5,a5,g7,b7,q6,q7,g8,q8,g9,q9,c16]
   ·simp only [if_neg hT,decide_eq_false hT] at g4 g5 g6
    simp [f3,C8,trD,G9,o9,l6,j3,x9,z8,O6 hm hl,C9,j6,o7,o8,J5,c7,c8,hsm,hlen',g2,q2,g3,q3,g4,g5,h1a,h1b,g6,O6 hm4 lim4,O6 hm5 lim5,a5,g7,b7,q6,q7,g8,q8,g9,q9,c16]
 ·have hv':r.valid=false:=avO.2 hv
  rw [hv'] at g8
  rw [if_neg hv] at g2
  rcases hrec with⟨_,h,_⟩ | ⟨_,rfl,rfl⟩
  ·exact absurd h hv
  refine⟨m8,?_,E18⟩
  rw [enter (sf:=f3) rfl rfl]
  by_cases hT:∃r,iB s r
  ·simp only [if_pos hT,decide_eq_true hT] at g4 g5 g6
   simp [f3,C8,trD,G9,o9,l6,j3,x9,z8,O6 hm hl,C9,j6,o7,o8,J5,c7,c8,hsm,hlen',g2,q2,g3,q3,g4,g5,h1a,h1b,g6,O6 hm4 lim4,O6 hm5 lim5,a5,g7,b7,q6,q7,g8,q8]
  ·simp only [if_neg hT,decide_eq_false hT] at g4 g5 g6
   simp [f3,C8,trD,G9,o9,l6,j3,x9,z8,O6 hm hl,C9,j6,o7,o8,J5,c7,c8,hsm,hlen',g2,q2,g3,q3,g4,g5,h1a,h1b,g6,O6 hm4 lim4,O6 hm5 lim5,a5,g7,b7,q6,q7,g8,q8]
end Go.Proofs.YtfnlnpllpfhhnaaGreatDoor.TT
