/- Well-formed statements, and how an expression is written, walked; conditions: the memory holds what the arguments say. -/
import Derived.Test.YteecnooaopfkeaaGreatDoorPD2
import Derived.Lib.ItoaNum
set_option linter.all false
namespace Go.Proofs.YteecnooaopfkeaaGreatDoor.TT
open Go Go.AM
set_option maxRecDepth 100000
set_option maxHeartbeats 8000000
def C17 (n fu d:Nat):Prop:=∀(m:Mem) (v:d9) (l:List aR),m.Ok->m.lim<=m.nx->R4 m (λ_=>True) l v->V8 l<=10000->aZ l<=d->
 ∃m',l7 KW fu n (.func 17) [v] m=some [⟨.bool (aO l),m'⟩]∧Ext m m'
theorem Xa {n fu d:Nat}(s:20000<=fu)(e:C37 n fu d):C17 (n+1) fu d:=by
 intro m v l j t h w r;obtain⟨o,f,i⟩:=h;have a:=I4.len i;have b:=f.slice.len;rw [a] at b;have u:=V5 l;rcases aag e j t l f i w r l.length 0 (by omega) .undef .undef m fu (Ext.refl j) (by omega) with⟨ha,c',e',M',g,q⟩ | ⟨ha,i',c',e',M',g,q⟩;all_goals
  have p:A9 (λc m k=>zT (l7 KW fu n) fu none c m k) fu (nV5 (iV 0) v .undef .undef ff) m []=_:=g;rw [q9] at ha;refine⟨M',?_,q⟩;rw [enter (sf:=f17) rfl rfl];simp [f17,p,ha]
def fmQ (k:Int)(e:List Ex)(t f:List aR):Prop:=e.length≠0∧(e.length<=1∨k=5)∧(t.length=0∨k=3∨k=4)∧(f.length=0∨k=3)∧(k≠6∨(e.map jK).head?=some 3)
theorem R3 {k:Int}{s:List UInt8}{e:List Ex}{t f:List aR}(h:¬ fmQ k e t f):tL (.mk k s e t f)=false:=by
 cases hh:tL (.mk k s e t f) with
 | false=>rfl
 | true=>exfalso;apply h;simp only [tL,U9,ae4,decide_eq_true_eq] at hh;obtain⟨⟨⟨⟨⟨⟨⟨⟨⟨⟨j,l⟩,m⟩,b⟩,c⟩,d⟩,g⟩,i⟩,n⟩,o⟩,p⟩:=hh;exact⟨b,c,by rcases d with (a | a) | a<;>simp [a],g,i⟩
theorem jg {k:Int}{s:List UInt8}{e:List Ex}{t f:List aR}(h:fmQ k e t f)(p:1<=k)(q:k<=6)(hs:(if k=1∨k=2 then Aj s else decide (s=[]))=true):tL (.mk k s e t f)=(aU e&&aO t&&aO f):=by
 obtain⟨a,b,c,d,x⟩:=h;have g:decide (1<=k)=true:=decide_eq_true p;have i:decide (k<=6)=true:=decide_eq_true q;have j:decide (e.length≠0)=true:=decide_eq_true a;have l:(decide (e.length<=1)||decide (k=5))=true:=by simpa using b
 have m:(decide (t.length=0)||decide (k=3)||decide (k=4))=true:=by rcases c with c | c | c<;>simp [c]
 have n:(decide (f.length=0)||decide (k=3))=true:=by rcases d with d | d<;>simp [d]
 have o:(decide (k≠6)||decide ((e.map jK).head?=some 3))=true:=by rcases x with x | x<;>simp [x]
 rw [tL,hs,g,i,j,l,m,n,o];simp
theorem Xc {n fu d:Nat}(ab:20000<=fu)(W:∀n,d+4<=n->C79 n fu d)(F:C17 (n+3) fu d)(hn:d+1<=n):C37 (n+4) fu (d+1):=by
 intro m al s j c h hp hd;obtain⟨k0,s0,e,t,f⟩:=s;obtain⟨v,u,r,re,rt,rf,rfl,h1,h2,h4,h5,h6,h7⟩:=h;have ov:=h1.slice.r9;have cv:=h1.slice.cells;have ag:=h4.slice.r9;have aa:=h4.slice.cells;have af:=h6.slice.r9;have a9:=h6.slice.cells;have T:=H6.len h2;have a0:=h1.slice.len;rw [T] at a0;have a7:=h4.slice.len;rw [I4.len h5] at a7;have a6:=h6.slice.len;rw [I4.len h7] at a6;have a:=And.intro ov (And.intro ag (And.intro af (And.intro cv (And.intro aa (And.intro a9 (And.intro a0 (And.intro a7 a6)))))));rw [stP] at hp;rw [vE] at hd;have E:=H7 j [o8 (r5 k0 s0 v u r)];have aj:=O0 e;have ak:=V5 t;have ai:=V5 f;by_cases k1:k0<1;refine⟨_,?_,E⟩;have ad:¬ 1<=k0:=by omega
 rw [show tL (.mk k0 s0 e t f)=false by simp [tL,ad]];have n1:¬ k0=1:=by omega
 have n2:¬ k0=2:=by omega
 rw [enter (sf:=f37) rfl rfl];simp [f37,P5 j c,r9,a,o9,k1,n1,n2];by_cases k2:6<k0;refine⟨_,?_,E⟩;have ae:¬ k0<=6:=by omega
 rw [show tL (.mk k0 s0 e t f)=false by simp [tL,ae]];have n1:¬ k0=1:=by omega
 have n2:¬ k0=2:=by omega
 rw [enter (sf:=f37) rfl rfl];simp [f37,P5 j c,r9,a,o9,k1,k2,n1,n2];have U:=gM.mono (m':=ext m [o8 (r5 k0 s0 v u r)]) h1 E.nx (λi hi _=>E.old i hi) (S':=λ_=>True) λ_ _ h=>h;have V:=CV E h2;by_cases hN:k0=1∨k0=2
 ·obtain⟨m1,z,E1⟩:=Qj (n:=n) ab E.ok s0;have C:m1.get m.nx=some (o8 (r5 k0 s0 v u r)):=(E1.old m.nx (by simp)).trans (by rw [u7 j];rfl);by_cases hb:Aj s0=true
  case neg=>
   have a8:Aj s0=false:=by simpa using hb
   refine⟨m1,?_,E.trans E1⟩;rw [show tL (.mk k0 s0 e t f)=false by simp [tL,a8,hN]];rcases hN with rfl | rfl;all_goals
    rw [enter (sf:=f37) rfl rfl];simp [f37,P5 j c,r9,a,o9,z,a8]
  rcases hN with rfl | rfl
  ·
   by_cases e0:e.length=0;refine⟨_,?_,E.trans E1⟩;rw [R3 (λq=>q.1 e0)];rw [enter (sf:=f37) rfl rfl];simp [f37,P5 j c,r9,a,o9,e0,z,hb,C];have I:0<e.length:=by omega
   have G:0<(e.length:Int):=by omega
   have H:¬ e=[]:=λh=>by simp [h] at e0
   have b:=And.intro I (And.intro G H);by_cases e1:1<(e.length:Int);refine⟨_,?_,E.trans E1⟩;rw [R3 (λq=>by rcases q.2.1 with q | q<;>omega)]
   rw [enter (sf:=f37) rfl rfl];simp [f37,P5 j c,r9,a,o9,e0,b,e1,z,hb,C];by_cases e2:f.length=0
   case neg=>
    have K:0<(f.length:Int):=(by omega);have L:¬ f=[]:=λh=>(by simp [h] at e2);have M:0<f.length:=(by omega);refine⟨_,?_,E.trans E1⟩;rw [R3 (λq=>by rcases q.2.2.2.1 with q | q<;>omega)]
    rw [enter (sf:=f37) rfl rfl];simp [f37,P5 j c,r9,a,o9,e0,b,e1,e2,M,K,L,z,hb,C]
   by_cases e3:t.length=0
   case neg=>
    have P:0<(t.length:Int):=(by omega);have Q:¬ t=[]:=λh=>(by simp [h] at e3);have S:0<t.length:=(by omega);refine⟨_,?_,E.trans E1⟩;rw [R3 (λq=>by rcases q.2.2.1 with q | q | q<;>omega)]
    rw [enter (sf:=f37) rfl rfl];simp [f37,P5 j c,r9,a,o9,e0,b,e1,e2,e3,S,P,Q,z,hb,C]
   rw [jg (e:=e) ⟨e0,.inl (by omega),.inl e3,.inl e2,.inl (by omega)⟩ (by omega) (by omega) (by show _=_;simp [hb])];rcases wm (p:=m.nx) (R:=(r5 1 s0 v u r)) (x2:=tt) (x3:=.bool false) (x4:=.bool false) (x5:=.bool false) (x6:=.bool false) (k0:=1) (s0:=s0) (W (n+3) (by omega)) E.ok (by simp) (by rw [E.lim];exact aA c E.nx) (by rw [u7 j];rfl) e U V (by omega) (by omega) e.length 0 (by omega) .undef .undef m1 fu E1 (by omega) with⟨ha,c',e',M',g,q⟩ | ⟨ha,i',c',e',M',g,q⟩;have A:A9 (λl m k=>jH (l7 KW fu (n+3)) fu none l m k) fu (fF (.agg (r5 1 s0 v u r)) (.ptr m.nx 0) tt ff ff ff ff (iV 0) .undef .undef ff) m1 []=_:=g;rw [q9] at ha;have o:M'.get m.nx=some (o8 (r5 1 s0 v u r)):=(q.old m.nx (by simp)).trans (by rw [u7 j];rfl);have J:M'.lim<=M'.nx:=by rw [q.lim,E.lim];exact aA c (aA E.nx q.nx)
   obtain⟨D,B,E2⟩:=F M' u t q.ok J ⟨rt,rsE (E.trans q) h4,nC (E.trans q) h5⟩ (by omega) (by omega);have y:=(E2.old m.nx (gI (by simp) q.nx)).trans o;have E3:=(E.trans q).trans E2;have x:D.lim<=D.nx:=by rw [E3.lim];exact aA c E3.nx
   obtain⟨Z,N,E4⟩:=F D r f E3.ok x ⟨rf,rsE E3 h6,nC E3 h7⟩ (by omega) (by omega);by_cases ft:aO t=true;refine⟨Z,?_,E3.trans E4⟩;rw [ft] at B;rw [enter (sf:=f37) rfl rfl];simp [f37,P5 j c,r9,a,o9,e0,b,e1,e2,e3,z,hb,C,A,ha,o,y,B,N,ft];have w:aO t=false:=by simpa using ft
   refine⟨D,?_,E3⟩;rw [w] at B;rw [enter (sf:=f37) rfl rfl];simp [f37,P5 j c,r9,a,o9,e0,b,e1,e2,e3,z,hb,C,A,ha,o,y,B,N,w];have A:A9 (λl m k=>jH (l7 KW fu (n+3)) fu none l m k) fu (fF (.agg (r5 1 s0 v u r)) (.ptr m.nx 0) tt ff ff ff ff (iV 0) .undef .undef ff) m1 []=_:=g;rw [q9] at ha;refine⟨M',?_,E.trans q⟩;rw [enter (sf:=f37) rfl rfl];simp [f37,P5 j c,r9,a,o9,e0,b,e1,e2,e3,z,hb,C,A,ha]
  ·
   by_cases e0:e.length=0;refine⟨_,?_,E.trans E1⟩;rw [R3 (λq=>q.1 e0)];rw [enter (sf:=f37) rfl rfl];simp [f37,P5 j c,r9,a,o9,e0,z,hb,C];have I:0<e.length:=by omega
   have G:0<(e.length:Int):=by omega
   have H:¬ e=[]:=λh=>by simp [h] at e0
   have b:=And.intro I (And.intro G H);by_cases e1:1<(e.length:Int);refine⟨_,?_,E.trans E1⟩;rw [R3 (λq=>by rcases q.2.1 with q | q<;>omega)]
   rw [enter (sf:=f37) rfl rfl];simp [f37,P5 j c,r9,a,o9,e0,b,e1,z,hb,C];by_cases e2:f.length=0
   case neg=>
    have K:0<(f.length:Int):=(by omega);have L:¬ f=[]:=λh=>(by simp [h] at e2);have M:0<f.length:=(by omega);refine⟨_,?_,E.trans E1⟩;rw [R3 (λq=>by rcases q.2.2.2.1 with q | q<;>omega)]
    rw [enter (sf:=f37) rfl rfl];simp [f37,P5 j c,r9,a,o9,e0,b,e1,e2,M,K,L,z,hb,C]
   by_cases e3:t.length=0
   case neg=>
    have P:0<(t.length:Int):=(by omega);have Q:¬ t=[]:=λh=>(by simp [h] at e3);have S:0<t.length:=(by omega);refine⟨_,?_,E.trans E1⟩;rw [R3 (λq=>by rcases q.2.2.1 with q | q | q<;>omega)]
    rw [enter (sf:=f37) rfl rfl];simp [f37,P5 j c,r9,a,o9,e0,b,e1,e2,e3,S,P,Q,z,hb,C]
   rw [jg (e:=e) ⟨e0,.inl (by omega),.inl e3,.inl e2,.inl (by omega)⟩ (by omega) (by omega) (by show _=_;simp [hb])];rcases wm (p:=m.nx) (R:=(r5 2 s0 v u r)) (x2:=tt) (x3:=.bool false) (x4:=.bool false) (x5:=.bool false) (x6:=.bool false) (k0:=2) (s0:=s0) (W (n+3) (by omega)) E.ok (by simp) (by rw [E.lim];exact aA c E.nx) (by rw [u7 j];rfl) e U V (by omega) (by omega) e.length 0 (by omega) .undef .undef m1 fu E1 (by omega) with⟨ha,c',e',M',g,q⟩ | ⟨ha,i',c',e',M',g,q⟩;have A:A9 (λl m k=>jH (l7 KW fu (n+3)) fu none l m k) fu (fF (.agg (r5 2 s0 v u r)) (.ptr m.nx 0) tt ff ff ff ff (iV 0) .undef .undef ff) m1 []=_:=g;rw [q9] at ha;have o:M'.get m.nx=some (o8 (r5 2 s0 v u r)):=(q.old m.nx (by simp)).trans (by rw [u7 j];rfl);have J:M'.lim<=M'.nx:=by rw [q.lim,E.lim];exact aA c (aA E.nx q.nx)
   obtain⟨D,B,E2⟩:=F M' u t q.ok J ⟨rt,rsE (E.trans q) h4,nC (E.trans q) h5⟩ (by omega) (by omega);have y:=(E2.old m.nx (gI (by simp) q.nx)).trans o;have E3:=(E.trans q).trans E2;have x:D.lim<=D.nx:=by rw [E3.lim];exact aA c E3.nx
   obtain⟨Z,N,E4⟩:=F D r f E3.ok x ⟨rf,rsE E3 h6,nC E3 h7⟩ (by omega) (by omega);by_cases ft:aO t=true;refine⟨Z,?_,E3.trans E4⟩;rw [ft] at B;rw [enter (sf:=f37) rfl rfl];simp [f37,P5 j c,r9,a,o9,e0,b,e1,e2,e3,z,hb,C,A,ha,o,y,B,N,ft];have w:aO t=false:=by simpa using ft
   refine⟨D,?_,E3⟩;rw [w] at B;rw [enter (sf:=f37) rfl rfl];simp [f37,P5 j c,r9,a,o9,e0,b,e1,e2,e3,z,hb,C,A,ha,o,y,B,N,w];have A:A9 (λl m k=>jH (l7 KW fu (n+3)) fu none l m k) fu (fF (.agg (r5 2 s0 v u r)) (.ptr m.nx 0) tt ff ff ff ff (iV 0) .undef .undef ff) m1 []=_:=g;rw [q9] at ha;refine⟨M',?_,E.trans q⟩;rw [enter (sf:=f37) rfl rfl];simp [f37,P5 j c,r9,a,o9,e0,b,e1,e2,e3,z,hb,C,A,ha]
 by_cases hs:s0=[]
 case neg=>
  refine⟨_,?_,E⟩;have n1:¬ k0=1:=by omega
  have n2:¬ k0=2:=by omega
  rw [show tL (.mk k0 s0 e t f)=false by simp [tL,hs,n1,n2]];rw [enter (sf:=f37) rfl rfl];simp [f37,P5 j c,r9,a,o9,k1,k2,n1,n2,hs]
 subst hs;have hk:k0=3∨k0=4∨k0=5∨k0=6:=by omega
 rcases hk with rfl | rfl | rfl | rfl
 ·
  by_cases e0:e.length=0;refine⟨_,?_,E⟩;rw [R3 (λq=>q.1 e0)];rw [enter (sf:=f37) rfl rfl];simp [f37,P5 j c,r9,a,o9,e0];have I:0<e.length:=by omega
  have G:0<(e.length:Int):=by omega
  have H:¬ e=[]:=λh=>by simp [h] at e0
  have b:=And.intro I (And.intro G H);by_cases e1:1<(e.length:Int);refine⟨_,?_,E⟩;rw [R3 (λq=>by rcases q.2.1 with q | q<;>omega)]
  rw [enter (sf:=f37) rfl rfl];simp [f37,P5 j c,r9,a,o9,e0,b,e1];rw [jg (e:=e) ⟨e0,.inl (by omega),.inr (.inl rfl),.inr rfl,.inl (by omega)⟩ (by omega) (by omega) (by simp)];rcases wm (p:=m.nx) (R:=(r5 3 [] v u r)) (x2:=ff) (x3:=.bool false) (x4:=.bool false) (x5:=.bool false) (x6:=.bool false) (k0:=3) (s0:=[]) (W (n+3) (by omega)) E.ok (by simp) (by rw [E.lim];exact aA c E.nx) (by rw [u7 j];rfl) e U V (by omega) (by omega) e.length 0 (by omega) .undef .undef (ext m [o8 (r5 3 [] v u r)]) fu (Ext.refl E.ok) (by omega) with⟨ha,c',e',M',g,q⟩ | ⟨ha,i',c',e',M',g,q⟩;have A:A9 (λl m k=>jH (l7 KW fu (n+3)) fu none l m k) fu (fF (.agg (r5 3 [] v u r)) (.ptr m.nx 0) ff ff ff ff ff (iV 0) .undef .undef ff) (ext m [o8 (r5 3 [] v u r)]) []=_:=g;rw [q9] at ha;have o:M'.get m.nx=some (o8 (r5 3 [] v u r)):=(q.old m.nx (by simp)).trans (by rw [u7 j];rfl);have J:M'.lim<=M'.nx:=by rw [q.lim,E.lim];exact aA c (aA E.nx q.nx)
  obtain⟨D,B,E2⟩:=F M' u t q.ok J ⟨rt,rsE (E.trans q) h4,nC (E.trans q) h5⟩ (by omega) (by omega);have y:=(E2.old m.nx (gI (by simp) q.nx)).trans o;have E3:=(E.trans q).trans E2;have x:D.lim<=D.nx:=by rw [E3.lim];exact aA c E3.nx
  obtain⟨Z,N,E4⟩:=F D r f E3.ok x ⟨rf,rsE E3 h6,nC E3 h7⟩ (by omega) (by omega);by_cases ft:aO t=true;refine⟨Z,?_,E3.trans E4⟩;rw [ft] at B;rw [enter (sf:=f37) rfl rfl];simp [f37,P5 j c,r9,a,o9,e0,b,e1,A,ha,o,y,B,N,ft];have w:aO t=false:=by simpa using ft
  refine⟨D,?_,E3⟩;rw [w] at B;rw [enter (sf:=f37) rfl rfl];simp [f37,P5 j c,r9,a,o9,e0,b,e1,A,ha,o,y,B,N,w];have A:A9 (λl m k=>jH (l7 KW fu (n+3)) fu none l m k) fu (fF (.agg (r5 3 [] v u r)) (.ptr m.nx 0) ff ff ff ff ff (iV 0) .undef .undef ff) (ext m [o8 (r5 3 [] v u r)]) []=_:=g;rw [q9] at ha;refine⟨M',?_,E.trans q⟩;rw [enter (sf:=f37) rfl rfl];simp [f37,P5 j c,r9,a,o9,e0,b,e1,A,ha]
 ·
  by_cases e0:e.length=0;refine⟨_,?_,E⟩;rw [R3 (λq=>q.1 e0)];rw [enter (sf:=f37) rfl rfl];simp [f37,P5 j c,r9,a,o9,e0];have I:0<e.length:=by omega
  have G:0<(e.length:Int):=by omega
  have H:¬ e=[]:=λh=>by simp [h] at e0
  have b:=And.intro I (And.intro G H);by_cases e1:1<(e.length:Int);refine⟨_,?_,E⟩;rw [R3 (λq=>by rcases q.2.1 with q | q<;>omega)]
  rw [enter (sf:=f37) rfl rfl];simp [f37,P5 j c,r9,a,o9,e0,b,e1];by_cases e2:f.length=0
  case neg=>
   have K:0<(f.length:Int):=by omega
   have L:¬ f=[]:=λh=>by simp [h] at e2
   have M:0<f.length:=by omega
   refine⟨_,?_,E⟩;rw [R3 (λq=>by rcases q.2.2.2.1 with q | q<;>omega)]
   rw [enter (sf:=f37) rfl rfl];simp [f37,P5 j c,r9,a,o9,e0,b,e1,e2,M,K,L]
  rw [jg (e:=e) ⟨e0,.inl (by omega),.inr (.inr rfl),.inl e2,.inl (by omega)⟩ (by omega) (by omega) (by simp)];rcases wm (p:=m.nx) (R:=(r5 4 [] v u r)) (x2:=ff) (x3:=.bool false) (x4:=.bool false) (x5:=.bool false) (x6:=.bool false) (k0:=4) (s0:=[]) (W (n+3) (by omega)) E.ok (by simp) (by rw [E.lim];exact aA c E.nx) (by rw [u7 j];rfl) e U V (by omega) (by omega) e.length 0 (by omega) .undef .undef (ext m [o8 (r5 4 [] v u r)]) fu (Ext.refl E.ok) (by omega) with⟨ha,c',e',M',g,q⟩ | ⟨ha,i',c',e',M',g,q⟩;have A:A9 (λl m k=>jH (l7 KW fu (n+3)) fu none l m k) fu (fF (.agg (r5 4 [] v u r)) (.ptr m.nx 0) ff ff ff ff ff (iV 0) .undef .undef ff) (ext m [o8 (r5 4 [] v u r)]) []=_:=g;rw [q9] at ha;have o:M'.get m.nx=some (o8 (r5 4 [] v u r)):=(q.old m.nx (by simp)).trans (by rw [u7 j];rfl);have J:M'.lim<=M'.nx:=by rw [q.lim,E.lim];exact aA c (aA E.nx q.nx)
  obtain⟨D,B,E2⟩:=F M' u t q.ok J ⟨rt,rsE (E.trans q) h4,nC (E.trans q) h5⟩ (by omega) (by omega);have y:=(E2.old m.nx (gI (by simp) q.nx)).trans o;have E3:=(E.trans q).trans E2;have x:D.lim<=D.nx:=by rw [E3.lim];exact aA c E3.nx
  obtain⟨Z,N,E4⟩:=F D r f E3.ok x ⟨rf,rsE E3 h6,nC E3 h7⟩ (by omega) (by omega);by_cases ft:aO t=true;refine⟨Z,?_,E3.trans E4⟩;rw [ft] at B;rw [enter (sf:=f37) rfl rfl];simp [f37,P5 j c,r9,a,o9,e0,b,e1,e2,A,ha,o,y,B,N,ft];have w:aO t=false:=by simpa using ft
  refine⟨D,?_,E3⟩;rw [w] at B;rw [enter (sf:=f37) rfl rfl];simp [f37,P5 j c,r9,a,o9,e0,b,e1,e2,A,ha,o,y,B,N,w];have A:A9 (λl m k=>jH (l7 KW fu (n+3)) fu none l m k) fu (fF (.agg (r5 4 [] v u r)) (.ptr m.nx 0) ff ff ff ff ff (iV 0) .undef .undef ff) (ext m [o8 (r5 4 [] v u r)]) []=_:=g;rw [q9] at ha;refine⟨M',?_,E.trans q⟩;rw [enter (sf:=f37) rfl rfl];simp [f37,P5 j c,r9,a,o9,e0,b,e1,e2,A,ha]
 ·
  by_cases e0:e.length=0;refine⟨_,?_,E⟩;rw [R3 (λq=>q.1 e0)];rw [enter (sf:=f37) rfl rfl];simp [f37,P5 j c,r9,a,o9,e0];have I:0<e.length:=by omega
  have G:0<(e.length:Int):=by omega
  have H:¬ e=[]:=λh=>by simp [h] at e0
  have b:=And.intro I (And.intro G H);by_cases e1:1<(e.length:Int);all_goals (
  by_cases e2:f.length=0
  case neg=>
   have K:0<(f.length:Int):=by omega
   have L:¬ f=[]:=λh=>by simp [h] at e2
   have M:0<f.length:=by omega
   refine⟨_,?_,E⟩;rw [R3 (λq=>by rcases q.2.2.2.1 with q | q<;>omega)]
   rw [enter (sf:=f37) rfl rfl];simp [f37,P5 j c,r9,a,o9,e0,b,e1,e2,M,K,L]
  by_cases e3:t.length=0
  case neg=>
   have P:0<(t.length:Int):=by omega
   have Q:¬ t=[]:=λh=>by simp [h] at e3
   have S:0<t.length:=by omega
   refine⟨_,?_,E⟩;rw [R3 (λq=>by rcases q.2.2.1 with q | q | q<;>omega)]
   rw [enter (sf:=f37) rfl rfl];simp [f37,P5 j c,r9,a,o9,e0,b,e1,e2,e3,S,P,Q]
  rw [jg (e:=e) ⟨e0,.inr rfl,.inl e3,.inl e2,.inl (by omega)⟩ (by omega) (by omega) (by simp)];rcases wm (p:=m.nx) (R:=(r5 5 [] v u r)) (x2:=ff) (x3:=.bool false) (x4:=.bool false) (x5:=.bool false) (x6:=.bool false) (k0:=5) (s0:=[]) (W (n+3) (by omega)) E.ok (by simp) (by rw [E.lim];exact aA c E.nx) (by rw [u7 j];rfl) e U V (by omega) (by omega) e.length 0 (by omega) .undef .undef (ext m [o8 (r5 5 [] v u r)]) fu (Ext.refl E.ok) (by omega) with⟨ha,c',e',M',g,q⟩ | ⟨ha,i',c',e',M',g,q⟩;have A:A9 (λl m k=>jH (l7 KW fu (n+3)) fu none l m k) fu (fF (.agg (r5 5 [] v u r)) (.ptr m.nx 0) ff ff ff ff ff (iV 0) .undef .undef ff) (ext m [o8 (r5 5 [] v u r)]) []=_:=g;rw [q9] at ha;have o:M'.get m.nx=some (o8 (r5 5 [] v u r)):=(q.old m.nx (by simp)).trans (by rw [u7 j];rfl);have J:M'.lim<=M'.nx:=by rw [q.lim,E.lim];exact aA c (aA E.nx q.nx)
  obtain⟨D,B,E2⟩:=F M' u t q.ok J ⟨rt,rsE (E.trans q) h4,nC (E.trans q) h5⟩ (by omega) (by omega);have y:=(E2.old m.nx (gI (by simp) q.nx)).trans o;have E3:=(E.trans q).trans E2;have x:D.lim<=D.nx:=by rw [E3.lim];exact aA c E3.nx
  obtain⟨Z,N,E4⟩:=F D r f E3.ok x ⟨rf,rsE E3 h6,nC E3 h7⟩ (by omega) (by omega);by_cases ft:aO t=true;refine⟨Z,?_,E3.trans E4⟩;rw [ft] at B;rw [enter (sf:=f37) rfl rfl];simp [f37,P5 j c,r9,a,o9,e0,b,e1,e2,e3,A,ha,o,y,B,N,ft];have w:aO t=false:=by simpa using ft
  refine⟨D,?_,E3⟩;rw [w] at B;rw [enter (sf:=f37) rfl rfl];simp [f37,P5 j c,r9,a,o9,e0,b,e1,e2,e3,A,ha,o,y,B,N,w];have A:A9 (λl m k=>jH (l7 KW fu (n+3)) fu none l m k) fu (fF (.agg (r5 5 [] v u r)) (.ptr m.nx 0) ff ff ff ff ff (iV 0) .undef .undef ff) (ext m [o8 (r5 5 [] v u r)]) []=_:=g;rw [q9] at ha;refine⟨M',?_,E.trans q⟩;rw [enter (sf:=f37) rfl rfl];simp [f37,P5 j c,r9,a,o9,e0,b,e1,e2,e3,A,ha])
 ·
  by_cases e0:e.length=0;refine⟨_,?_,E⟩;rw [R3 (λq=>q.1 e0)];rw [enter (sf:=f37) rfl rfl];simp [f37,P5 j c,r9,a,o9,e0];have I:0<e.length:=by omega
  have G:0<(e.length:Int):=by omega
  have H:¬ e=[]:=λh=>by simp [h] at e0
  have b:=And.intro I (And.intro G H);by_cases e1:1<(e.length:Int);refine⟨_,?_,E⟩;rw [R3 (λq=>by rcases q.2.1 with q | q<;>omega)]
  rw [enter (sf:=f37) rfl rfl];simp [f37,P5 j c,r9,a,o9,e0,b,e1];by_cases e2:f.length=0
  case neg=>
   have K:0<(f.length:Int):=by omega
   have L:¬ f=[]:=λh=>by simp [h] at e2
   have M:0<f.length:=by omega
   refine⟨_,?_,E⟩;rw [R3 (λq=>by rcases q.2.2.2.1 with q | q<;>omega)]
   rw [enter (sf:=f37) rfl rfl];simp [f37,P5 j c,r9,a,o9,e0,b,e1,e2,M,K,L]
  by_cases e3:t.length=0
  case neg=>
   have P:0<(t.length:Int):=by omega
   have Q:¬ t=[]:=λh=>by simp [h] at e3
   have S:0<t.length:=by omega
   refine⟨_,?_,E⟩;rw [R3 (λq=>by rcases q.2.2.1 with q | q | q<;>omega)]
   rw [enter (sf:=f37) rfl rfl];simp [f37,P5 j c,r9,a,o9,e0,b,e1,e2,e3,S,P,Q]
  obtain⟨X,rfl⟩:∃X,e=[X]:=ac9.1 (by omega);obtain⟨kx,nx,sx,ax⟩:=X;obtain⟨ac,o1,a1,a2,a3,a4,a5⟩:=(h1.slice.ext E).at (i:=0) (by rw [T];simp);obtain⟨vx,ah,rx,_,_⟩:=H6.get h2 0 (by simp) (by rw [T];simp);rw [rx] at a5;have O:=a5 0 (by omega);have Y:=a1;simp at Y;rw [Y3] at O;have O:ld1 ((ext m [o8 (r5 6 [] v u r)]).get ac) o1=some (iV kx):=O;by_cases e4:kx=3
  case neg=>
   refine⟨_,?_,E⟩
   rw [R3 (λq=>q.2.2.2.2.elim (λq=>by omega) (λq=>by simp [jK] at q;exact e4 q))]
   rw [enter (sf:=f37) rfl rfl];simp [f37,P5 j c,r9,a,o9,e0,b,e1,e2,e3,e4,Y,O]
  subst e4;rw [jg (e:=[(Ex.mk 3 nx sx ax)]) ⟨e0,.inl (by omega),.inl e3,.inl e2,.inr rfl⟩ (by omega) (by omega) (by simp)];rcases wm (p:=m.nx) (R:=(r5 6 [] v u r)) (x2:=ff) (x3:=.bool false) (x4:=.bool false) (x5:=.bool false) (x6:=.bool false) (k0:=6) (s0:=[]) (W (n+3) (by omega)) E.ok (by simp) (by rw [E.lim];exact aA c E.nx) (by rw [u7 j];rfl) [(Ex.mk 3 nx sx ax)] U V (by omega) (by omega) [(Ex.mk 3 nx sx ax)].length 0 (by omega) .undef .undef (ext m [o8 (r5 6 [] v u r)]) fu (Ext.refl E.ok) (by omega) with⟨ha,c',e',M',g,q⟩ | ⟨ha,i',c',e',M',g,q⟩;have A:A9 (λl m k=>jH (l7 KW fu (n+3)) fu none l m k) fu (fF (.agg (r5 6 [] v u r)) (.ptr m.nx 0) ff ff ff ff ff (iV 0) .undef .undef ff) (ext m [o8 (r5 6 [] v u r)]) []=_:=g;rw [q9] at ha;have o:M'.get m.nx=some (o8 (r5 6 [] v u r)):=(q.old m.nx (by simp)).trans (by rw [u7 j];rfl);have J:M'.lim<=M'.nx:=by rw [q.lim,E.lim];exact aA c (aA E.nx q.nx)
  obtain⟨D,B,E2⟩:=F M' u t q.ok J ⟨rt,rsE (E.trans q) h4,nC (E.trans q) h5⟩ (by omega) (by omega);have y:=(E2.old m.nx (gI (by simp) q.nx)).trans o;have E3:=(E.trans q).trans E2;have x:D.lim<=D.nx:=by rw [E3.lim];exact aA c E3.nx
  obtain⟨Z,N,E4⟩:=F D r f E3.ok x ⟨rf,rsE E3 h6,nC E3 h7⟩ (by omega) (by omega);by_cases ft:aO t=true;refine⟨Z,?_,E3.trans E4⟩;rw [ft] at B;rw [enter (sf:=f37) rfl rfl];simp [f37,P5 j c,r9,a,o9,e2,e3,Y,O,A,ha,o,y,B,N,ft];have w:aO t=false:=by simpa using ft
  refine⟨D,?_,E3⟩;rw [w] at B;rw [enter (sf:=f37) rfl rfl];simp [f37,P5 j c,r9,a,o9,e2,e3,Y,O,A,ha,o,y,B,N,w];have A:A9 (λl m k=>jH (l7 KW fu (n+3)) fu none l m k) fu (fF (.agg (r5 6 [] v u r)) (.ptr m.nx 0) ff ff ff ff ff (iV 0) .undef .undef ff) (ext m [o8 (r5 6 [] v u r)]) []=_:=g;rw [q9] at ha;refine⟨M',?_,E.trans q⟩;rw [enter (sf:=f37) rfl rfl];simp [f37,P5 j c,r9,a,o9,e2,e3,Y,O,A,ha]
theorem adY (fu:Nat)(a:20000<=fu):∀d n:Nat,2*d+4<=n->C37 n fu d:=by
 intro d;induction d with
 | zero=>intro n b m g s j i h l c;obtain⟨o,p,e,t,f⟩:=s;rw [vE] at c;omega
 | succ d ih=>intro n b;obtain⟨n,rfl⟩:∃k,n=k+4:=⟨n-4,by omega⟩;exact Xc a (λn b=>adX fu a d n b) (Xa a (ih (n+2) (by omega))) (by omega)
theorem Xe (fu:Nat)(a:20000<=fu)(d n:Nat)(h:2*d+5<=n):C17 n fu d:=by obtain⟨n,rfl⟩:∃k,n=k+1:=⟨n-1,by omega⟩;exact Xa a (adY fu a d n (by omega))
def C70 (n fu d:Nat):Prop:=∀(m:Mem) (row:List d9) (e:aR),m.Ok->m.lim<=m.nx->lD m (λ_=>True) e row->stP e<=10000->vE e<=d->
 ∃m',l7 KW fu n (.func 70) [.agg row] m=some [⟨.bool (tL e),m'⟩]∧Ext m m'
def CH (g:FuncId)(n fu d:Nat):Prop:=∀(m:Mem) (row:List d9) (e:aR),m.Ok->m.lim<=m.nx->lD m (λ_=>True) e row->stP e<=10000->vE e<=d->
 ∃m',l7 KW fu n (.func g) [.agg row] m=some [⟨.bool (!tL e),m'⟩]∧Ext m m'
theorem jh {n fu d:Nat}(b:C70 n fu d):CH 105 (n+1) fu d:=by
 intro m a e k j h o l;have p:=h.row;obtain⟨c,f⟩:=p;have E:=H7 k [o8 a];obtain⟨q,g,E1⟩:=b (ext m [o8 a]) a e E.ok (by rw [E.lim];exact aA j E.nx) (ZG E h) o l;refine⟨q,?_,E.trans E1⟩;have i:ES (some (o8 a)) 0 5=some (.agg a):=by rw [ku (by omega) (by omega),q9,Xb (by omega)]
 rw [enter (sf:=f105) rfl rfl];simp [f105,P5 k j,r9,c,f,i,g]
theorem adZ {n fu d:Nat}(b:C70 n fu d):CH 69 (n+1) fu d:=by
 intro m a e k j h o l;have p:=h.row;obtain⟨c,f⟩:=p;have E:=H7 k [o8 a];obtain⟨q,g,E1⟩:=b (ext m [o8 a]) a e E.ok (by rw [E.lim];exact aA j E.nx) (ZG E h) o l;refine⟨q,?_,E.trans E1⟩;have i:ES (some (o8 a)) 0 5=some (.agg a):=by rw [ku (by omega) (by omega),q9,Xb (by omega)]
 rw [enter (sf:=f69) rfl rfl];simp [f69,P5 k j,r9,c,f,i,g]
theorem Xf {cl:FuncId}{n fu d:Nat}(G:CH cl (n+1) fu d){m:Mem}(U:m.Ok)(I:m.lim<=m.nx){v:d9}{rows:List (List d9)}(a:List aR)(B:gM m (λ_=>True) 5 v rows)(z:I4 m (λ_=>True) a rows)(L:V8 a<=10000)(T:aZ a<=d):
  ∀(j i:Nat),i+j=a.length->∀(c k b:d9) (M:Mem) (N:Nat),Ext m M->j+1<=N->
  (aO (a.drop i)=true∧∃c' k' b' M',A9 (λenv m k=>qm (l7 KW fu (n+1)) fu none env m k) N (Ai v (iV (i:Int)) (iV (a.length:Int)) c (.func (.func cl) [] []) k b (iV 0)) M []=some [⟨.exit 0,(Ai v (iV (a.length:Int)) (iV (a.length:Int)) c' (.func (.func cl) [] []) k' b' (iV 0)),M',[],none⟩]∧Ext m M')∨
  (aO (a.drop i)=false∧∃(i' c' k' b':d9) (r':Nat) (M':Mem),A9 (λenv m k=>qm (l7 KW fu (n+1)) fu none env m k) N (Ai v (iV (i:Int)) (iV (a.length:Int)) c (.func (.func cl) [] []) k b (iV 0)) M []=some [⟨.ret,(Ai v i' (iV (a.length:Int)) c' (.func (.func cl) [] []) k' b' (iV (r':Int))),M',[],none⟩]∧Ext m M'):=by
 have u:=I4.len z;have J:=V5 a;intro j;induction j with
 | zero=>
  intro i H c k b M N E D;obtain⟨N,rfl⟩:∃k,N=k+1:=⟨N-1,by omega⟩;obtain rfl:i=a.length:=by omega
  refine .inl ⟨by simp [aO],.bool false,k,b,M,?_,E⟩;rw [l8];simp [qm]
 | succ j ih=>
  intro i H c k b M N E D;obtain⟨N,rfl⟩:∃k,N=k+1:=⟨N-1,by omega⟩;have e:i<a.length:=by omega
  have f:i<rows.length:=by omega
  have g:(i:Int)<(a.length:Int):=by omega
  have C:=E.ok;have s:M.lim<=M.nx:=by rw [E.lim];exact aA I E.nx
  have t:a.drop i=a[i]::a.drop (i+1):=Xl e;rw [t,aO];obtain⟨P,V,y,Q,R,A,S⟩:=(B.slice.ext E).at f;have h:=I4.get z i e f;have O:=h.row;have l:=A 0 5 (by omega) (by omega);rw [q9,Xb (by omega),Y3] at l;have K:=kF a i e;have F:=oK a i e;have o:lD M (λ_=>True) a[i] rows[i]:=ZG E h;generalize hX:a[i]=X at *;generalize hR:rows[i]=R1 at *;obtain⟨x,r,E2⟩:=G M R1 X C s o (by omega) (by omega);by_cases hf:tL X=true;rw [hf] at r;have w:=ih (i+1) (by omega) tt (iV (i:Int)) ff x N (E.trans E2) (by omega);have q:A9 (λenv m k=>qm (l7 KW fu (n+1)) fu none env m k) (N+1) (Ai v (iV (i:Int)) (iV (a.length:Int)) c (.func (.func cl) [] []) k b (iV 0)) M []=A9 (λenv m k=>qm (l7 KW fu (n+1)) fu none env m k) N (Ai v (.int .i64 ((i+1:Nat):Int)) (iV (a.length:Int)) tt (.func (.func cl) [] []) (iV (i:Int)) ff (iV 0)) x []:=by rw [l8];simp [qm,e,g,y,l,r,J7 (i:=i) (by omega)]
  rw [q,hf,adl];exact w;have p:tL X=false:=by simpa using hf
  rw [p] at r;refine .inr ⟨by rw [p];rfl,iV (i:Int),.bool true,iV (i:Int),.bool true,i,x,?_,E.trans E2⟩;rw [l8];simp [qm,e,g,y,l,r]
theorem qQ {cl:FuncId}{n fu d:Nat}(u:20000<=fu)(w:CH cl (n+1) fu d){m:Mem}(p:m.Ok)(x:m.lim<=m.nx){v:d9}(a:List aR)(h:R4 m (λ_=>True) a v)(l:V8 a<=10000)(t:aZ a<=d):
  ∃m',l7 KW fu (n+3) (.func 68) [v,(.func (.func cl) [] [])] m=some [⟨.bool (!aO a),m'⟩]∧Ext m m':=by
 obtain⟨s,j,o⟩:=h;have f:=I4.len o;have c:=j.slice.len;rw [f] at c;have y:=V5 a;have r:=Us j.slice;rcases Xf (n:=n) (fu:=fu) w p x a j o l t a.length 0 (by omega) .undef .undef .undef m fu (Ext.refl p) (by omega) with⟨ha,c',k',b',M',g,q⟩ | ⟨ha,i',c',k',b',r',M',g,q⟩;have i:A9 (λe m k=>qm (l7 KW fu (n+1)) fu none e m k) fu (Ai v (iV 0) (iV (a.length:Int)) .undef (.func (.func cl) [] []) .undef .undef (iV 0)) m []=_:=g;rw [q9] at ha;have b:l7 KW fu (n+2) (.func 103) [v,(.func (.func cl) [] [])] m=some [⟨iV (-1),M'⟩]:=by rw [enter (sf:=f103) rfl rfl];simp [f103,c,i,r]
 refine⟨M',?_,q⟩;rw [enter (sf:=f68) rfl rfl];simp [f68,b,ha];have i:A9 (λe m k=>qm (l7 KW fu (n+1)) fu none e m k) fu (Ai v (iV 0) (iV (a.length:Int)) .undef (.func (.func cl) [] []) .undef .undef (iV 0)) m []=_:=g;rw [q9] at ha;have b:l7 KW fu (n+2) (.func 103) [v,(.func (.func cl) [] [])] m=some [⟨iV (r':Int),M'⟩]:=by rw [enter (sf:=f103) rfl rfl];simp [f103,c,i,r]
 have z:(0:Int)<=(r':Int):=by omega
 refine⟨M',?_,q⟩;rw [enter (sf:=f68) rfl rfl];simp [f68,b,ha,z]
theorem Xg {n fu d:Nat}(r:20000<=fu)(I:∀n,4*d+2<=n->WY n fu d)(A:C70 (n+2) fu d)(hn:4*d<=n):C70 (n+6) fu (d+1):=by
 intro m ak s l j h hp hd;obtain⟨k0,M,e,t,f⟩:=s;obtain⟨v,U,T,re,rt,rf,rfl,Y,h2,h4,h5,h6,h7⟩:=h;have ov:=Y.slice.r9;have cv:=Y.slice.cells;have af:=h4.slice.r9;have a9:=h4.slice.cells;have ae:=h6.slice.r9;have a8:=h6.slice.cells;have o:=Us Y.slice;have S:=H6.len h2;have a0:=Y.slice.len;rw [S] at a0;have a7:=h4.slice.len;rw [I4.len h5] at a7;have a6:=h6.slice.len;rw [I4.len h7] at a6;have c:=And.intro ov (And.intro af (And.intro ae (And.intro cv (And.intro a9 (And.intro a8 (And.intro a0 (And.intro a7 a6)))))));rw [stP] at hp;rw [vE] at hd;have E:=H7 l [o8 (r5 k0 M v U T)];have ai:=O0 e;have aj:=V5 t;have ah:=V5 f;by_cases k1:k0<1;refine⟨_,?_,E⟩;have ac:¬ 1<=k0:=by omega
 rw [show tL (.mk k0 M e t f)=false by simp [tL,ac]];rw [enter (sf:=f70) rfl rfl];simp [f70,P5 l j,r9,c,o9,o,k1];by_cases k2:6<k0;refine⟨_,?_,E⟩;have ad:¬ k0<=6:=by omega
 rw [show tL (.mk k0 M e t f)=false by simp [tL,ad]];rw [enter (sf:=f70) rfl rfl];simp [f70,P5 l j,r9,c,o9,o,k1,k2];by_cases hN:k0=1∨k0=2
 ·rcases hN with rfl | rfl
  ·
   by_cases e0:e.length=0;refine⟨_,?_,E⟩;rw [R3 (λq=>q.1 e0)];rw [enter (sf:=f70) rfl rfl];simp [f70,P5 l j,r9,c,o9,o,e0];have B:0<e.length:=by omega
   have z:0<(e.length:Int):=by omega
   have x:¬ e=[]:=λh=>by simp [h] at e0
   have g:=And.intro B (And.intro z x);by_cases e1:1<(e.length:Int);refine⟨_,?_,E⟩;rw [R3 (λq=>by rcases q.2.1 with q | q<;>omega)]
   rw [enter (sf:=f70) rfl rfl];simp [f70,P5 l j,r9,c,o9,o,e0,g,e1];obtain⟨m1,p,E1⟩:=Dr (n:=n) r E.ok (by rw [E.lim];exact aA j E.nx) M;have R:m1.get m.nx=some (o8 (r5 1 M v U T)):=(E1.old _ (by simp)).trans (by rw [u7 l];rfl);by_cases hb:Aj M=true
   case neg=>have Z:Aj M=false:=(by simpa using hb);refine⟨m1,?_,E.trans E1⟩;rw [show tL (.mk 1 M e t f)=false by simp [tL,Z]];rw [enter (sf:=f70) rfl rfl];simp [f70,P5 l j,r9,c,o9,o,e0,g,e1,p,Z,R]
   by_cases e3:t.length=0
   case neg=>
    have O:0<(t.length:Int):=(by omega);have P:¬ t=[]:=λh=>(by simp [h] at e3);have Q:0<t.length:=(by omega);refine⟨_,?_,E.trans E1⟩;rw [R3 (λq=>by rcases q.2.2.1 with q | q | q<;>omega)]
    rw [enter (sf:=f70) rfl rfl];simp [f70,P5 l j,r9,c,o9,o,e0,g,e1,p,hb,R,e3,Q,O,P]
   by_cases e2:f.length=0
   case neg=>
    have J:0<(f.length:Int):=(by omega);have K:¬ f=[]:=λh=>(by simp [h] at e2);have L:0<f.length:=(by omega);refine⟨_,?_,E.trans E1⟩;rw [R3 (λq=>by rcases q.2.2.2.1 with q | q<;>omega)]
    rw [enter (sf:=f70) rfl rfl];simp [f70,P5 l j,r9,c,o9,o,e0,g,e1,p,hb,R,e3,e2,L,J,K]
   rw [jg (e:=e) ⟨e0,.inl (by omega),.inl e3,.inl e2,.inl (by omega)⟩ (by omega) (by omega) (by show _=_;simp [hb])];have E0:Ext m m1:=E.trans E1;obtain⟨M',a,q⟩:=yB (cl:=107) (n:=n+2) (fu:=fu) r (wh (I (n+2) (by omega))) E0.ok (by rw [E0.lim];exact aA j E0.nx) e ⟨re,rsE E0 Y,CV E0 h2⟩ (by omega) (by omega);have k:M'.get m.nx=some (o8 (r5 1 M v U T)):=(q.old m.nx (gI (by simp) E1.nx)).trans R;have E5:=E0.trans q;by_cases fe:aU e=true
   case neg=>have C:aU e=false:=(by simpa using fe);refine⟨M',?_,E5⟩;rw [C] at a ⊢;rw [enter (sf:=f70) rfl rfl];simp [f70,P5 l j,r9,c,o9,o,e0,g,e1,p,hb,R,e3,e2,k,a]
   rw [fe] at a ⊢;have F:M'.lim<=M'.nx:=by rw [E5.lim];exact aA j E5.nx
   obtain⟨H,y,E2⟩:=qQ (cl:=105) (n:=n+2) (fu:=fu) r (jh A) E5.ok F t ⟨rt,rsE E5 h4,nC E5 h5⟩ (by omega) (by omega);have G:m.nx<M'.nx:=gI (by simp) (aA E1.nx q.nx);have w:=(E2.old m.nx G).trans k;have E3:=E5.trans E2;by_cases ft:aO t=true
   case neg=>have D:aO t=false:=(by simpa using ft);refine⟨H,?_,E3⟩;rw [D] at y ⊢;rw [enter (sf:=f70) rfl rfl];simp [f70,P5 l j,r9,c,o9,o,e0,g,e1,p,hb,R,e3,e2,k,w,a,y]
   rw [ft] at y ⊢;have u:H.lim<=H.nx:=by rw [E3.lim];exact aA j E3.nx
   obtain⟨m3,W,E4⟩:=qQ (cl:=105) (n:=n+2) (fu:=fu) r (jh A) E3.ok u f ⟨rf,rsE E3 h6,nC E3 h7⟩ (by omega) (by omega);refine⟨m3,?_,E3.trans E4⟩;rw [enter (sf:=f70) rfl rfl];simp [f70,P5 l j,r9,c,o9,o,e0,g,e1,p,hb,R,e3,e2,k,w,a,y,W]
  ·
   by_cases e0:e.length=0;refine⟨_,?_,E⟩;rw [R3 (λq=>q.1 e0)];rw [enter (sf:=f70) rfl rfl];simp [f70,P5 l j,r9,c,o9,o,e0];have B:0<e.length:=by omega
   have z:0<(e.length:Int):=by omega
   have x:¬ e=[]:=λh=>by simp [h] at e0
   have g:=And.intro B (And.intro z x);by_cases e1:1<(e.length:Int);refine⟨_,?_,E⟩;rw [R3 (λq=>by rcases q.2.1 with q | q<;>omega)]
   rw [enter (sf:=f70) rfl rfl];simp [f70,P5 l j,r9,c,o9,o,e0,g,e1];obtain⟨m1,p,E1⟩:=Dr (n:=n) r E.ok (by rw [E.lim];exact aA j E.nx) M;have R:m1.get m.nx=some (o8 (r5 2 M v U T)):=(E1.old _ (by simp)).trans (by rw [u7 l];rfl);by_cases hb:Aj M=true
   case neg=>have Z:Aj M=false:=(by simpa using hb);refine⟨m1,?_,E.trans E1⟩;rw [show tL (.mk 2 M e t f)=false by simp [tL,Z]];rw [enter (sf:=f70) rfl rfl];simp [f70,P5 l j,r9,c,o9,o,e0,g,e1,p,Z,R]
   by_cases e3:t.length=0
   case neg=>
    have O:0<(t.length:Int):=(by omega);have P:¬ t=[]:=λh=>(by simp [h] at e3);have Q:0<t.length:=(by omega);refine⟨_,?_,E.trans E1⟩;rw [R3 (λq=>by rcases q.2.2.1 with q | q | q<;>omega)]
    rw [enter (sf:=f70) rfl rfl];simp [f70,P5 l j,r9,c,o9,o,e0,g,e1,p,hb,R,e3,Q,O,P]
   by_cases e2:f.length=0
   case neg=>
    have J:0<(f.length:Int):=(by omega);have K:¬ f=[]:=λh=>(by simp [h] at e2);have L:0<f.length:=(by omega);refine⟨_,?_,E.trans E1⟩;rw [R3 (λq=>by rcases q.2.2.2.1 with q | q<;>omega)]
    rw [enter (sf:=f70) rfl rfl];simp [f70,P5 l j,r9,c,o9,o,e0,g,e1,p,hb,R,e3,e2,L,J,K]
   rw [jg (e:=e) ⟨e0,.inl (by omega),.inl e3,.inl e2,.inl (by omega)⟩ (by omega) (by omega) (by show _=_;simp [hb])];have E0:Ext m m1:=E.trans E1;obtain⟨M',a,q⟩:=yB (cl:=107) (n:=n+2) (fu:=fu) r (wh (I (n+2) (by omega))) E0.ok (by rw [E0.lim];exact aA j E0.nx) e ⟨re,rsE E0 Y,CV E0 h2⟩ (by omega) (by omega);have k:M'.get m.nx=some (o8 (r5 2 M v U T)):=(q.old m.nx (gI (by simp) E1.nx)).trans R;have E5:=E0.trans q;by_cases fe:aU e=true
   case neg=>have C:aU e=false:=(by simpa using fe);refine⟨M',?_,E5⟩;rw [C] at a ⊢;rw [enter (sf:=f70) rfl rfl];simp [f70,P5 l j,r9,c,o9,o,e0,g,e1,p,hb,R,e3,e2,k,a]
   rw [fe] at a ⊢;have F:M'.lim<=M'.nx:=by rw [E5.lim];exact aA j E5.nx
   obtain⟨H,y,E2⟩:=qQ (cl:=105) (n:=n+2) (fu:=fu) r (jh A) E5.ok F t ⟨rt,rsE E5 h4,nC E5 h5⟩ (by omega) (by omega);have G:m.nx<M'.nx:=gI (by simp) (aA E1.nx q.nx);have w:=(E2.old m.nx G).trans k;have E3:=E5.trans E2;by_cases ft:aO t=true
   case neg=>have D:aO t=false:=(by simpa using ft);refine⟨H,?_,E3⟩;rw [D] at y ⊢;rw [enter (sf:=f70) rfl rfl];simp [f70,P5 l j,r9,c,o9,o,e0,g,e1,p,hb,R,e3,e2,k,w,a,y]
   rw [ft] at y ⊢;have u:H.lim<=H.nx:=by rw [E3.lim];exact aA j E3.nx
   obtain⟨m3,W,E4⟩:=qQ (cl:=105) (n:=n+2) (fu:=fu) r (jh A) E3.ok u f ⟨rf,rsE E3 h6,nC E3 h7⟩ (by omega) (by omega);refine⟨m3,?_,E3.trans E4⟩;rw [enter (sf:=f70) rfl rfl];simp [f70,P5 l j,r9,c,o9,o,e0,g,e1,p,hb,R,e3,e2,k,w,a,y,W]
 have n1:¬ k0=1:=by omega
 have n2:¬ k0=2:=by omega
 by_cases hs:M=[]
 case neg=>
  have aa:tL (.mk k0 M e t f)=false:=by simp [tL,hs,n1,n2]
  refine⟨_,?_,E⟩;rw [aa];by_cases e0:e.length=0;rw [enter (sf:=f70) rfl rfl];simp [f70,P5 l j,r9,c,o9,o,k1,k2,n1,n2,hs,e0];have z:¬ (e.length:Int)=0:=by omega
  have x:¬ e=[]:=λh=>by simp [h] at e0
  by_cases e1:1<(e.length:Int);by_cases k5:k0=5;subst k5;rw [enter (sf:=f70) rfl rfl];simp [f70,P5 l j,r9,c,o9,o,hs,e0,x,e1];rw [enter (sf:=f70) rfl rfl];simp [f70,P5 l j,r9,c,o9,o,k1,k2,n1,n2,hs,e0,x,e1,k5];rw [enter (sf:=f70) rfl rfl];simp [f70,P5 l j,r9,c,o9,o,k1,k2,n1,n2,hs,e0,x,e1]
 subst hs;have hk:k0=3∨k0=4∨k0=5∨k0=6:=by omega
 rcases hk with rfl | rfl | rfl | rfl
 ·
  by_cases e0:e.length=0;refine⟨_,?_,E⟩;rw [R3 (λq=>q.1 e0)];rw [enter (sf:=f70) rfl rfl];simp [f70,P5 l j,r9,c,o9,o,e0];have B:0<e.length:=by omega
  have z:0<(e.length:Int):=by omega
  have x:¬ e=[]:=λh=>by simp [h] at e0
  have g:=And.intro B (And.intro z x);by_cases e1:1<(e.length:Int);refine⟨_,?_,E⟩;rw [R3 (λq=>by rcases q.2.1 with q | q<;>omega)]
  rw [enter (sf:=f70) rfl rfl];simp [f70,P5 l j,r9,c,o9,o,e0,g,e1];obtain⟨bt,z1,z2⟩:∃b:Bool,decide (0<(t.length:Int))=b∧decide (0<t.length)=b:=⟨_,rfl,by simp⟩;cases bt;all_goals (
  obtain⟨bf,z3,z4⟩:∃b:Bool,decide (0<(f.length:Int))=b∧decide (0<f.length)=b:=⟨_,rfl,by simp⟩;cases bf;all_goals (
  rw [jg (e:=e) ⟨e0,.inl (by omega),.inr (.inl rfl),.inr rfl,.inl (by omega)⟩ (by omega) (by omega) (by simp)];have E0:Ext m (ext m [o8 (r5 3 [] v U T)]):=E;obtain⟨M',a,q⟩:=yB (cl:=107) (n:=n+2) (fu:=fu) r (wh (I (n+2) (by omega))) E0.ok (by rw [E0.lim];exact aA j E0.nx) e ⟨re,rsE E0 Y,CV E0 h2⟩ (by omega) (by omega);have k:M'.get m.nx=some (o8 (r5 3 [] v U T)):=(q.old m.nx (by simp)).trans (by rw [u7 l];rfl);have E5:=E0.trans q;by_cases fe:aU e=true
  case neg=>
   have C:aU e=false:=by simpa using fe
   refine⟨M',?_,E5⟩;rw [C] at a ⊢;rw [enter (sf:=f70) rfl rfl];simp [f70,P5 l j,r9,c,o9,o,e0,g,e1,z1,z2,z3,z4,k,a]
  rw [fe] at a ⊢;have F:M'.lim<=M'.nx:=by rw [E5.lim];exact aA j E5.nx
  obtain⟨H,y,E2⟩:=qQ (cl:=105) (n:=n+2) (fu:=fu) r (jh A) E5.ok F t ⟨rt,rsE E5 h4,nC E5 h5⟩ (by omega) (by omega);have G:m.nx<M'.nx:=gI (by simp) (aA (J2 _) q.nx);have w:=(E2.old m.nx G).trans k;have E3:=E5.trans E2;by_cases ft:aO t=true
  case neg=>
   have D:aO t=false:=by simpa using ft
   refine⟨H,?_,E3⟩;rw [D] at y ⊢;rw [enter (sf:=f70) rfl rfl];simp [f70,P5 l j,r9,c,o9,o,e0,g,e1,z1,z2,z3,z4,k,w,a,y]
  rw [ft] at y ⊢;have u:H.lim<=H.nx:=by rw [E3.lim];exact aA j E3.nx
  obtain⟨m3,W,E4⟩:=qQ (cl:=105) (n:=n+2) (fu:=fu) r (jh A) E3.ok u f ⟨rf,rsE E3 h6,nC E3 h7⟩ (by omega) (by omega);refine⟨m3,?_,E3.trans E4⟩;rw [enter (sf:=f70) rfl rfl];simp [f70,P5 l j,r9,c,o9,o,e0,g,e1,z1,z2,z3,z4,k,w,a,y,W]))
 ·
  by_cases e0:e.length=0;refine⟨_,?_,E⟩;rw [R3 (λq=>q.1 e0)];rw [enter (sf:=f70) rfl rfl];simp [f70,P5 l j,r9,c,o9,o,e0];have B:0<e.length:=by omega
  have z:0<(e.length:Int):=by omega
  have x:¬ e=[]:=λh=>by simp [h] at e0
  have g:=And.intro B (And.intro z x);by_cases e1:1<(e.length:Int);refine⟨_,?_,E⟩;rw [R3 (λq=>by rcases q.2.1 with q | q<;>omega)]
  rw [enter (sf:=f70) rfl rfl];simp [f70,P5 l j,r9,c,o9,o,e0,g,e1];obtain⟨bt,z1,z2⟩:∃b:Bool,decide (0<(t.length:Int))=b∧decide (0<t.length)=b:=⟨_,rfl,by simp⟩;cases bt;all_goals (
  by_cases e2:f.length=0
  case neg=>
   have J:0<(f.length:Int):=by omega
   have K:¬ f=[]:=λh=>by simp [h] at e2
   have L:0<f.length:=by omega
   refine⟨_,?_,E⟩;rw [R3 (λq=>by rcases q.2.2.2.1 with q | q<;>omega)]
   rw [enter (sf:=f70) rfl rfl];simp [f70,P5 l j,r9,c,o9,o,e0,g,e1,z1,z2,e2,L,J,K]
  rw [jg (e:=e) ⟨e0,.inl (by omega),.inr (.inr rfl),.inl e2,.inl (by omega)⟩ (by omega) (by omega) (by simp)];have E0:Ext m (ext m [o8 (r5 4 [] v U T)]):=E;obtain⟨M',a,q⟩:=yB (cl:=107) (n:=n+2) (fu:=fu) r (wh (I (n+2) (by omega))) E0.ok (by rw [E0.lim];exact aA j E0.nx) e ⟨re,rsE E0 Y,CV E0 h2⟩ (by omega) (by omega);have k:M'.get m.nx=some (o8 (r5 4 [] v U T)):=(q.old m.nx (by simp)).trans (by rw [u7 l];rfl);have E5:=E0.trans q;by_cases fe:aU e=true
  case neg=>
   have C:aU e=false:=by simpa using fe
   refine⟨M',?_,E5⟩;rw [C] at a ⊢;rw [enter (sf:=f70) rfl rfl];simp [f70,P5 l j,r9,c,o9,o,e0,g,e1,z1,z2,e2,k,a]
  rw [fe] at a ⊢;have F:M'.lim<=M'.nx:=by rw [E5.lim];exact aA j E5.nx
  obtain⟨H,y,E2⟩:=qQ (cl:=105) (n:=n+2) (fu:=fu) r (jh A) E5.ok F t ⟨rt,rsE E5 h4,nC E5 h5⟩ (by omega) (by omega);have G:m.nx<M'.nx:=gI (by simp) (aA (J2 _) q.nx);have w:=(E2.old m.nx G).trans k;have E3:=E5.trans E2;by_cases ft:aO t=true
  case neg=>
   have D:aO t=false:=by simpa using ft
   refine⟨H,?_,E3⟩;rw [D] at y ⊢;rw [enter (sf:=f70) rfl rfl];simp [f70,P5 l j,r9,c,o9,o,e0,g,e1,z1,z2,e2,k,w,a,y]
  rw [ft] at y ⊢;have u:H.lim<=H.nx:=by rw [E3.lim];exact aA j E3.nx
  obtain⟨m3,W,E4⟩:=qQ (cl:=105) (n:=n+2) (fu:=fu) r (jh A) E3.ok u f ⟨rf,rsE E3 h6,nC E3 h7⟩ (by omega) (by omega);refine⟨m3,?_,E3.trans E4⟩;rw [enter (sf:=f70) rfl rfl];simp [f70,P5 l j,r9,c,o9,o,e0,g,e1,z1,z2,e2,k,w,a,y,W])
 ·
  by_cases e0:e.length=0;refine⟨_,?_,E⟩;rw [R3 (λq=>q.1 e0)];rw [enter (sf:=f70) rfl rfl];simp [f70,P5 l j,r9,c,o9,o,e0];have B:0<e.length:=by omega
  have z:0<(e.length:Int):=by omega
  have x:¬ e=[]:=λh=>by simp [h] at e0
  have g:=And.intro B (And.intro z x);by_cases e1:1<(e.length:Int);all_goals (
  by_cases e3:t.length=0
  case neg=>
   have O:0<(t.length:Int):=by omega
   have P:¬ t=[]:=λh=>by simp [h] at e3
   have Q:0<t.length:=by omega
   refine⟨_,?_,E⟩;rw [R3 (λq=>by rcases q.2.2.1 with q | q | q<;>omega)]
   rw [enter (sf:=f70) rfl rfl];simp [f70,P5 l j,r9,c,o9,o,e0,g,e1,e3,Q,O,P]
  by_cases e2:f.length=0
  case neg=>
   have J:0<(f.length:Int):=by omega
   have K:¬ f=[]:=λh=>by simp [h] at e2
   have L:0<f.length:=by omega
   refine⟨_,?_,E⟩;rw [R3 (λq=>by rcases q.2.2.2.1 with q | q<;>omega)]
   rw [enter (sf:=f70) rfl rfl];simp [f70,P5 l j,r9,c,o9,o,e0,g,e1,e3,e2,L,J,K]
  rw [jg (e:=e) ⟨e0,.inr rfl,.inl e3,.inl e2,.inl (by omega)⟩ (by omega) (by omega) (by simp)];have E0:Ext m (ext m [o8 (r5 5 [] v U T)]):=E;obtain⟨M',a,q⟩:=yB (cl:=107) (n:=n+2) (fu:=fu) r (wh (I (n+2) (by omega))) E0.ok (by rw [E0.lim];exact aA j E0.nx) e ⟨re,rsE E0 Y,CV E0 h2⟩ (by omega) (by omega);have k:M'.get m.nx=some (o8 (r5 5 [] v U T)):=(q.old m.nx (by simp)).trans (by rw [u7 l];rfl);have E5:=E0.trans q;by_cases fe:aU e=true
  case neg=>
   have C:aU e=false:=by simpa using fe
   refine⟨M',?_,E5⟩;rw [C] at a ⊢;rw [enter (sf:=f70) rfl rfl];simp [f70,P5 l j,r9,c,o9,o,e0,g,e1,e3,e2,k,a]
  rw [fe] at a ⊢;have F:M'.lim<=M'.nx:=by rw [E5.lim];exact aA j E5.nx
  obtain⟨H,y,E2⟩:=qQ (cl:=105) (n:=n+2) (fu:=fu) r (jh A) E5.ok F t ⟨rt,rsE E5 h4,nC E5 h5⟩ (by omega) (by omega);have G:m.nx<M'.nx:=gI (by simp) (aA (J2 _) q.nx);have w:=(E2.old m.nx G).trans k;have E3:=E5.trans E2;by_cases ft:aO t=true
  case neg=>
   have D:aO t=false:=by simpa using ft
   refine⟨H,?_,E3⟩;rw [D] at y ⊢;rw [enter (sf:=f70) rfl rfl];simp [f70,P5 l j,r9,c,o9,o,e0,g,e1,e3,e2,k,w,a,y]
  rw [ft] at y ⊢;have u:H.lim<=H.nx:=by rw [E3.lim];exact aA j E3.nx
  obtain⟨m3,W,E4⟩:=qQ (cl:=105) (n:=n+2) (fu:=fu) r (jh A) E3.ok u f ⟨rf,rsE E3 h6,nC E3 h7⟩ (by omega) (by omega);refine⟨m3,?_,E3.trans E4⟩;rw [enter (sf:=f70) rfl rfl];simp [f70,P5 l j,r9,c,o9,o,e0,g,e1,e3,e2,k,w,a,y,W])
 ·
  by_cases e0:e.length=0;refine⟨_,?_,E⟩;rw [R3 (λq=>q.1 e0)];rw [enter (sf:=f70) rfl rfl];simp [f70,P5 l j,r9,c,o9,o,e0];have B:0<e.length:=by omega
  have z:0<(e.length:Int):=by omega
  have x:¬ e=[]:=λh=>by simp [h] at e0
  have g:=And.intro B (And.intro z x);by_cases e1:1<(e.length:Int);refine⟨_,?_,E⟩;rw [R3 (λq=>by rcases q.2.1 with q | q<;>omega)]
  rw [enter (sf:=f70) rfl rfl];simp [f70,P5 l j,r9,c,o9,o,e0,g,e1];by_cases e3:t.length=0
  case neg=>
   have O:0<(t.length:Int):=by omega
   have P:¬ t=[]:=λh=>by simp [h] at e3
   have Q:0<t.length:=by omega
   refine⟨_,?_,E⟩;rw [R3 (λq=>by rcases q.2.2.1 with q | q | q<;>omega)]
   rw [enter (sf:=f70) rfl rfl];simp [f70,P5 l j,r9,c,o9,o,e0,g,e1,e3,Q,O,P]
  by_cases e2:f.length=0
  case neg=>
   have J:0<(f.length:Int):=by omega
   have K:¬ f=[]:=λh=>by simp [h] at e2
   have L:0<f.length:=by omega
   refine⟨_,?_,E⟩;rw [R3 (λq=>by rcases q.2.2.2.1 with q | q<;>omega)]
   rw [enter (sf:=f70) rfl rfl];simp [f70,P5 l j,r9,c,o9,o,e0,g,e1,e3,e2,L,J,K]
  obtain⟨X,rfl⟩:∃X,e=[X]:=ac9.1 (by omega);obtain⟨kx,nx,sx,ax⟩:=X;obtain⟨ab,o1,a1,a2,a3,a4,a5⟩:=(Y.slice.ext E).at (i:=0) (by rw [S];simp);obtain⟨vx,ag,rx,_,_⟩:=H6.get h2 0 (by simp) (by rw [S];simp);rw [rx] at a5;have N:=a5 0 (by omega);have V:=a1;simp at V;rw [Y3] at N;have N:ld1 ((ext m [o8 (r5 6 [] v U T)]).get ab) o1=some (iV kx):=N;by_cases e4:kx=3
  case neg=>
   refine⟨_,?_,E⟩
   rw [R3 (λq=>q.2.2.2.2.elim (λq=>by omega) (λq=>by simp [jK] at q;exact e4 q))]
   rw [enter (sf:=f70) rfl rfl];simp [f70,P5 l j,r9,c,o9,o,e0,g,e1,e3,e2,e4,V,N]
  subst e4;rw [jg (e:=[(Ex.mk 3 nx sx ax)]) ⟨e0,.inl (by omega),.inl e3,.inl e2,.inr rfl⟩ (by omega) (by omega) (by simp)];have E0:Ext m (ext m [o8 (r5 6 [] v U T)]):=E;obtain⟨M',a,q⟩:=yB (cl:=107) (n:=n+2) (fu:=fu) r (wh (I (n+2) (by omega))) E0.ok (by rw [E0.lim];exact aA j E0.nx) [(Ex.mk 3 nx sx ax)] ⟨re,rsE E0 Y,CV E0 h2⟩ (by omega) (by omega);have k:M'.get m.nx=some (o8 (r5 6 [] v U T)):=(q.old m.nx (by simp)).trans (by rw [u7 l];rfl);have E5:=E0.trans q;by_cases fe:aU [(Ex.mk 3 nx sx ax)]=true
  case neg=>
   have C:aU [(Ex.mk 3 nx sx ax)]=false:=by simpa using fe
   refine⟨M',?_,E5⟩;rw [C] at a ⊢;rw [enter (sf:=f70) rfl rfl];simp [f70,P5 l j,r9,c,o9,o,e3,e2,V,N,k,a]
  rw [fe] at a ⊢;have F:M'.lim<=M'.nx:=by rw [E5.lim];exact aA j E5.nx
  obtain⟨H,y,E2⟩:=qQ (cl:=105) (n:=n+2) (fu:=fu) r (jh A) E5.ok F t ⟨rt,rsE E5 h4,nC E5 h5⟩ (by omega) (by omega);have G:m.nx<M'.nx:=gI (by simp) (aA (J2 _) q.nx);have w:=(E2.old m.nx G).trans k;have E3:=E5.trans E2;by_cases ft:aO t=true
  case neg=>
   have D:aO t=false:=by simpa using ft
   refine⟨H,?_,E3⟩;rw [D] at y ⊢;rw [enter (sf:=f70) rfl rfl];simp [f70,P5 l j,r9,c,o9,o,e3,e2,V,N,k,w,a,y]
  rw [ft] at y ⊢;have u:H.lim<=H.nx:=by rw [E3.lim];exact aA j E3.nx
  obtain⟨m3,W,E4⟩:=qQ (cl:=105) (n:=n+2) (fu:=fu) r (jh A) E3.ok u f ⟨rf,rsE E3 h6,nC E3 h7⟩ (by omega) (by omega);refine⟨m3,?_,E3.trans E4⟩;rw [enter (sf:=f70) rfl rfl];simp [f70,P5 l j,r9,c,o9,o,e3,e2,V,N,k,w,a,y,W]
theorem ae0 (fu:Nat)(a:20000<=fu):∀d n:Nat,4*d+2<=n->C70 n fu d:=by
 intro d;induction d with
 | zero=>intro n b m g s j i h l c;obtain⟨o,p,e,t,f⟩:=s;rw [vE] at c;omega
 | succ d ih=>intro n b;obtain⟨n,rfl⟩:∃k,n=k+6:=⟨n-6,by omega⟩;exact Xg a (λn b=>aaf fu a d n b) (ih (n+2) (by omega)) (by omega)
noncomputable section
def kN (k:Int):Int:=if k=18 then 0 else if k=17 then 1 else if k=5 then 2 else if 11<=k∧k<=16 then 3 else if k=9∨k=10 then 4 else if 6<=k∧k<=8 then 5 else if k=4 then 6 else 7
def KQ (k:Int):List UInt8:=if k=6 then [42] else if k=7 then [47] else if k=8 then [37] else if k=9 then [43] else if k=10 then [45] else if k=11 then [60] else if k=12 then [60,61] else if k=13 then [62] else if k=14 then [62,61] else if k=15 then [61,61] else if k=16 then [33,61] else if k=17 then [97,110,100] else if k=18 then [111,114] else []
def bQ (least:Int)(p:Int×List UInt8):List UInt8:=if kN p.1<least then 40::(p.2 ++ [41]) else p.2
def kP (k n:Int)(s:List UInt8)(l:List (Int×List UInt8)):List UInt8:=
 if k=1 then Lib.itoa n else if k=2 then s else if k=3 then s++(40::(aW [44,32] (l.map (·.2)) ++ [41]))
 else if k=4 then 45::bQ 6 (l.getD 0 (0,[])) else if k=5 then [110,111,116,32]++bQ 2 (l.getD 0 (0,[]))
 else bQ (if kN k=3 then 4 else kN k) (l.getD 0 (0,[]))++(32::(KQ k++(32::bQ (kN k+1) (l.getD 1 (0,[])))))
mutual
def bR:Ex->List UInt8
 | .mk k n s a=>kP k n s (sw a)
def sw:List Ex->List (Int×List UInt8)
 | []=>[]
 | e::l=>(jK e,bR e)::sw l
end
theorem KR:∀l:List Ex,sw l=l.map λe=>(jK e,bR e)
 | []=>rfl
 | e::l=>by rw [sw,KR l];rfl
def aG (l:List Ex):List UInt8:=aW [44,32] (l.map bR)
theorem KS:∀(k n:Nat),n<10^(k+1)->(Lib.decDigits n).length<=k+1
 | 0,n,h=>by rw [Lib.decDigits,dif_pos (by simpa using h)];simp
 | k+1,n,h=>by rw [Lib.decDigits];split;simp;have:=KS k (n / 10) (by rw [afM] at h;omega);simp;omega
theorem Qk {n:Int}(h0:0<=n)(a:n<=9007199254740992):(Lib.itoa n).length<=16:=by
 rw [Lib.itoa,if_neg (by omega)]
 exact KS 15 n.toNat (by have:(10:Nat)^(15+1)=10000000000000000:=by decide
                         omega)
theorem Bz (sep:List UInt8):∀l:List (List UInt8),(aW sep l).length<=(l.map λs=>s.length+sep.length).sum
 | []=>J2 _
 | [s]=>by show s.length<=_;simp
 | s::t::l=>by have:=Bz sep (t::l);show (U2 s (U2 sep (aW sep (t::l)))).length<=_;rw [O4,O4,Z5,Z5,Z7,aeG];omega
theorem aah {p:Prop} [Decidable p]{a b:List UInt8}{n:Nat}(c:a.length<=n)(hb:b.length<=n):(if p then a else b).length<=n:=by split<;>assumption
theorem KT (k:Int):(KQ k).length<=3:=by
 unfold KQ;repeat' apply aah
 all_goals decide
theorem fK (m:Int)(p:Int×List UInt8):(bQ m p).length<=p.2.length+2:=by unfold bQ;split<;>simp
theorem zZ {s:List UInt8}(h:Aj s=true):s.length<=16:=by simp only [Aj,U9,decide_eq_true_eq] at h;omega
theorem Od:∀(l:List (Int×List UInt8)) (i:Nat),(l.getD i (0,[])).2.length<=(l.map λp=>p.2.length).sum
 | [],i=>by simp
 | p::l,0=>by simp
 | p::l,i+1=>by have:=Od l i;simp at this ⊢;omega
theorem TQ:∀(l:List (Int×List UInt8)),(l.getD 0 (0,[])).2.length+(l.getD 1 (0,[])).2.length<=(l.map λp=>p.2.length).sum
 | []=>by simp
 | [p]=>by simp
 | p::q::l=>by simp
mutual
theorem gG:∀e:Ex,lZ e=true->(bR e).length+4<=40*oJ e
 | .mk k n s a,h=>by
  rw [bR,oJ];have hs:k=2∨k=3->s.length<=16:=λhk=>by simp only [lZ,U9,decide_eq_true_eq] at h;rw [if_pos hk] at h;exact zZ h.1.2
  have hn:k=1->0<=n∧n<=9007199254740992:=λhk=>by simp only [lZ,U9,decide_eq_true_eq] at h;rw [if_pos hk] at h;simpa using h.1.1.2
  have ha:aU a=true:=by simp only [lZ,U9] at h;exact h.2
  have hl:=KU a ha;have hj:((aW [44,32] ((sw a).map (·.2))).length)<=((sw a).map λp=>p.2.length).sum+2*a.length:=by
   have:=Bz [44,32] ((sw a).map (·.2));rw [ad4] at this;have e:∀l:List Ex,(List.map ((λs:List UInt8=>s.length + [(44:UInt8),32].length)∘λx:Int×List UInt8=>x.2) (sw l)).sum=((sw l).map λp=>p.2.length).sum+2*l.length:=by
    intro l;induction l with
    | nil=>rfl
    | cons x l ih=>rw [sw,Z7,aeG,ih,Z7,aeG,Y1];simp;omega
   rw [e] at this;exact this
  have g0:=Od (sw a) 0;have g1:=TQ (sw a);unfold kP;split;rename_i hk;have:=Qk (hn hk).1 (hn hk).2;omega
  split;rename_i hk;have:=hs (.inl hk);omega
  split;rename_i hk;have:=hs (.inr hk);simp only [Z5,Y1,abw];omega
  split;have:=fK 6 ((sw a).getD 0 (0,[]));rw [Y1];omega;split;have:=fK 2 ((sw a).getD 0 (0,[]));simp only [Z5,Y1,abw];omega;have p1:=fK (if kN k=3 then 4 else kN k) ((sw a).getD 0 (0,[]));have p2:=fK (kN k+1) ((sw a).getD 1 (0,[]));have p3:=KT k;simp only [Z5,Y1];omega
theorem KU:∀l:List Ex,aU l=true->((sw l).map λp=>p.2.length).sum+4*l.length<=40*S9 l
 | [],_=>by simp [sw,S9]
 | e::l,h=>by rw [aU,U9] at h;have h1:=gG e h.1;have h2:=KU l h.2;rw [sw,S9,Z7,aeG,Y1];show (bR e).length + _ + _<=_;omega
end
theorem sF (l:List Ex)(h:aU l=true):(aG l).length<=40*S9 l:=by
 have b:=KU l h;have a:=Bz [44,32] (l.map bR);have e:∀l:List Ex,((l.map bR).map λs=>s.length + [(44:UInt8),32].length).sum=((sw l).map λp=>p.2.length).sum+2*l.length:=by
  intro l;induction l with
  | nil=>rfl
  | cons x l ih=>rw [sw,Z7,Z7,aeG,ih,Z7,aeG,Y1];simp;omega
 rw [e] at a;show (aW [44,32] (l.map bR)).length<=_;omega
def L8 (d:Nat):List UInt8:=List.replicate (2*d) 32
mutual
def yC:aR->Nat->List UInt8
 | .mk k s e t f,d=>
  if k=1 then L8 d++([108,101,116,32]++(s++([32,61,32]++(aG e ++ [59,10]))))
  else if k=2 then L8 d++(s++([32,61,32]++(aG e ++ [59,10])))
  else if k=5 then L8 d++([112,114,105,110,116,32]++(aG e ++ [59,10]))
  else if k=6 then L8 d++(aG e ++ [59,10])
  else if k=4 then L8 d++([119,104,105,108,101,32]++(aG e++([32,123,10]++(P6 t (d+1)++(L8 d ++ [125,10])))))
  else L8 d++([105,102,32]++(aG e++([32,123,10]++(P6 t (d+1)++((if 0<f.length then L8 d++([125,32,101,108,115,101,32,123,10]++P6 f (d+1)) else [])++(L8 d ++ [125,10]))))))
def P6:List aR->Nat->List UInt8
 | [],_=>[]
 | s::l,d=>yC s d++P6 l d
end
mutual
theorem aai:∀(s:aR) (d:Nat),tL s=true->d+vE s<=100->(yC s d).length<=700*stP s
 | .mk k s e t f,d,h,hd=>by
  have h':=h;simp only [tL,U9,decide_eq_true_eq] at h;obtain⟨⟨⟨⟨⟨⟨⟨⟨⟨⟨a1,a2⟩,a3⟩,a4⟩,a5⟩,a6⟩,a7⟩,a8⟩,a9⟩,b1⟩,b2⟩:=h;rw [vE] at hd;have h1:=sF e a9;have h2:=jc t (d+1) b1 (by omega);have h3:=jc f (d+1) b2 (by omega);have hi:(L8 d).length<=200:=by rw [L8,afA];omega
  have hs:s.length<=16:=by
   split at a3;exact zZ a3;have:s=[]:=by simpa using a3
   simp [this]
  rw [yC,stP];repeat' split
  all_goals simp only [Z5,Y1,abw]
  all_goals omega
theorem jc:∀(l:List aR) (d:Nat),aO l=true->d+aZ l<=100->(P6 l d).length<=700*V8 l
 | [],d,_,_=>by simp [P6]
 | s::l,d,h,hd=>by rw [aO,U9] at h;rw [aZ] at hd;have h1:=aai s d h.1 (by omega);have h2:=jc l d h.2 (by omega);rw [P6,V8,Z5];omega
end
end
def Lj (l:List aR):Int:=if (lF l).1<0 then 2 else if aO l=true then 0 else 1
theorem Xh {l:List aR}(h:Lj l=0):V8 l<=500∧aZ l<=20∧aO l=true:=by
 unfold Lj lF at h;by_cases c:V8 l<=500∧aZ l<=20;rw [if_pos c] at h;have:¬ ((V8 l:Int),(aZ l:Int)).1<0:=by simp
 rw [if_neg this] at h;by_cases f:aO l=true;exact⟨c.1,c.2,f⟩;rw [if_neg f] at h;omega;rw [if_neg c] at h;simp at h
theorem Xi {m:Mem}(q:m.Ok)(e:m.lim<=m.nx){v:d9}{l:List aR}(h:R4 m (λ_=>True) l v)(hp:V8 l<=10000)(p:aZ l<=26)(n fu:Nat)(s:110<=n)(d:20000<=fu):
  ∃m',l7 KW fu (n+1) (.func 33) [v] m=some [⟨iV (Lj l),m'⟩]∧Ext m m':=by
 obtain⟨n,rfl⟩:∃k,n=k+60:=⟨n-60,by omega⟩;obtain⟨g,j,E1⟩:=WQ q e h hp (n+10) fu d;obtain⟨r,o,E2⟩:=qQ (cl:=69) (n:=n+57) (fu:=fu) d (adZ (ae0 fu d 26 (n+57) (by omega))) E1.ok (by rw [E1.lim];exact aA e E1.nx) l (R4.ext h E1) hp p;have b:l7 KW fu (n+60) (.func 15) [v] m=_:=j;have a:l7 KW fu (n+60) (.func 68) [v,.func (.func 69) [] []] g=_:=o;unfold Lj;by_cases c:(lF l).1<0;refine⟨g,?_,E1⟩;rw [if_pos c,enter (sf:=f33) rfl rfl];simp [f33,b,c];refine⟨r,?_,E1.trans E2⟩;rw [if_neg c,enter (sf:=f33) rfl rfl];by_cases f:aO l=true;rw [if_pos f];rw [f] at a;simp [f33,b,c,a];have i:aO l=false:=by simpa using f
 rw [if_neg f];rw [i] at a;simp [f33,b,c,a]
theorem Rt (k:Int)(n fu:Nat)(m:Mem):l7 KW fu (n+1) (.func 176) [iV k] m=some [⟨iV (kN k),m⟩]:=by
 rw [enter (sf:=f176) rfl rfl];by_cases h:4<=k∧k<=18;have u:k=4∨k=5∨k=6∨k=7∨k=8∨k=9∨k=10∨k=11∨k=12∨k=13∨k=14∨k=15∨k=16∨k=17∨k=18:=by omega
 rcases u with rfl | rfl | rfl | rfl | rfl | rfl | rfl | rfl | rfl | rfl | rfl | rfl | rfl | rfl | rfl<;>rfl
 have e:kN k=7:=by unfold kN;rw [if_neg (by omega),if_neg (by omega),if_neg (by omega),if_neg (by omega),if_neg (by omega),if_neg (by omega),if_neg (by omega)]
 have l:¬ k=18:=by omega
 have j:¬ k=17:=by omega
 have p:¬ k=5:=by omega
 have b:¬ k=11:=by omega
 have c:¬ k=12:=by omega
 have d:¬ k=13:=by omega
 have f:¬ k=14:=by omega
 have g:¬ k=15:=by omega
 have i:¬ k=16:=by omega
 have t:¬ k=9:=by omega
 have a:¬ k=10:=by omega
 have q:¬ k=6:=by omega
 have r:¬ k=7:=by omega
 have s:¬ k=8:=by omega
 have o:¬ k=4:=by omega
 rw [e];simp [f176,l,j,p,b,c,d,f,g,i,t,a,q,r,s,o]
theorem KV (k:Int):0<=kN k∧kN k<=7:=by
 unfold kN;repeat' split
 all_goals omega
theorem aaj {m:Mem}(b:m.Ok)(a:m.lim<=m.nx)(n fu:Nat):l7 KW fu (n+1) (.func 175) [] m=some [⟨.map m.nx,m.new (.map aF)⟩]:=by exact NC (K:=KW) (f:=175) (by show some ({f175 with pure:=false}:W9)=some zL;rfl) (λ_ _=>rfl) fu n m b a
noncomputable def Xj (b:Option Q6)(f:Gd)(n:Nat)(z:d9)(ok:Bool)(k:d9):Option d9:=Cw b λes=>ob (R8 f n k es) λr=>found ok z r
theorem fO (f:Gd)(n:Nat)(z:d9)(ok:Bool)(mp k:OF)(ls:List d9)(env:T d9)(m:Mem):GV f n z ok mp k ls env m=tO (mp ls env) (ob (R8 f n (k ls env) []) λr=>found ok z r) λid=>Xj (m.get id) f n z ok (k ls env):=rfl
theorem Xk {k:Int}(h:6<=k)(h':k<=18):Xj (some (.map aF)) ay 1 (.str []) false (iV k)=some (.str (KQ k)):=by
 have a:k=6∨k=7∨k=8∨k=9∨k=10∨k=11∨k=12∨k=13∨k=14∨k=15∨k=16∨k=17∨k=18:=by omega
 rcases a with rfl | rfl | rfl | rfl | rfl | rfl | rfl | rfl | rfl | rfl | rfl | rfl | rfl<;>rfl
theorem Oe {m:Mem}{S:Nat->Prop}{e:Ex}{row:List d9}(h:bF m S e row):aB 100 (.agg row) (.agg row)=true:=by obtain⟨k,n,s,a⟩:=e;obtain⟨v,b,rfl,c,_⟩:=h;have d:aB 99 v v=true:=jI c.slice 98;rw [Ta,vU,vT 98,vU,vT 98,vU,ig 98,vU,d,VQ];rfl
def aak (n fu d:Nat):Prop:=∀(m:Mem) (row:List d9) (e:Ex) (least:Int),m.Ok->m.lim<=m.nx->13<=m.nx->bF m (λ_=>True) e row->lZ e=true->oJ e<=10000->qx e<=d->
 ∃m',l7 KW fu n (.func 113) [.agg row,iV least] m=some [⟨.str (bQ least (jK e,bR e)),m'⟩]∧Ext m m'
def C73 (n fu d:Nat):Prop:=∀(m:Mem) (v:d9) (l:List Ex),m.Ok->m.lim<=m.nx->13<=m.nx->iZ m (λ_=>True) l v->aU l=true->S9 l<=10000->ah l<=d->
 ∃m',l7 KW fu n (.func 73) [v] m=some [⟨.str (aG l),m'⟩]∧Ext m m'
theorem FQ:∀{l:List Ex} (h:aU l=true) (i:Nat) (hi:i<l.length),lZ l[i]=true
 | e::l,h,0,hi=>by rw [aU,U9] at h;exact h.1
 | e::l,h,i+1,hi=>by rw [aU,U9] at h;exact FQ h.2 i (by simpa using hi)
theorem bs1 (z:List d9)(ps:List (Nat×Nat×OF))(ls:List d9)(env:T d9)(a:Nat)(h:z.length=1):H9 1 1 z ps ls env a=ob (lay ps ls env z) λcells=>if cells.length=1 then some (.slice a 0 1 1,some (o8 cells)) else none:=uX 1 z ps ls env a h
theorem aal {n fu d:Nat}(u:aak n fu d){m:Mem}(hm:m.Ok)(Q:m.lim<=m.nx)(hb:13<=m.nx){v:d9}{rows:List (List d9)}(a:List Ex)(L:gM m (λ_=>True) 4 v rows)(P:H6 m (λ_=>True) a rows)(hf:aU a=true)(a8:S9 a<=10000)(hd:ah a<=d):
  ∀(j i:Nat),i+j=a.length->∀(c out x6:d9) (M:Mem) (N:Nat),Ext m M->tF m.nx M out ((a.take i).map bR)->j+1<=N->
  ∃c' out' x6' M',A9 (λenv m k=>NQ (l7 KW fu n) fu none env m k) N (Ai v (iV (i:Int)) (iV (a.length:Int)) c v out x6 (.str [])) M []=some [⟨.exit 0,(Ai v (iV (a.length:Int)) (iV (a.length:Int)) c' v out' x6' (.str [])),M',[],none⟩]∧Ext m M'∧tF m.nx M' out' (a.map bR):=by
 have o:=H6.len P;have w:=L.slice.len;rw [o] at w;have a6:=O0 a;intro j;induction j with
 | zero=>
  intro i z c out x6 M N E O Z;obtain⟨N,rfl⟩:∃k,N=k+1:=⟨N-1,by omega⟩;obtain rfl:i=a.length:=by omega
  rw [afE] at O;refine⟨.bool false,out,x6,M,?_,E,O⟩;rw [l8];simp [NQ]
 | succ j ih=>
  intro i z c out x6 M N E O Z;obtain⟨N,rfl⟩:∃k,N=k+1:=⟨N-1,by omega⟩;have b:i<a.length:=by omega
  have f:i<rows.length:=by omega
  have x:(i:Int)<(a.length:Int):=by omega
  have A:=E.ok;have l:M.lim<=M.nx:=by rw [E.lim];exact aA Q E.nx
  obtain⟨a9,o1,S,a2,a3,U,a5⟩:=(L.slice.ext E).at f;have g:=H6.get P i b f;have F:=g.row;have t:=U 0 4 (by omega) (by omega);rw [q9,Xb (by omega),Y3] at t;have a7:=dN a i b;have a0:=kG a i b;have B:=FQ hf i b;have s:bF M (λ_=>True) a[i] rows[i]:=Cu E g;have G:(a.take i).map bR ++ [bR a[i]]=(a.take (i+1)).map bR:=by rw [abu b,abN];rfl
  have H:((a.take i).map bR).length=i:=by simp;omega
  generalize hX:a[i]=X at *;generalize hR:rows[i]=R at *;have E1:=H7 A [o8 R];obtain⟨h,K,E2⟩:=u (ext M [o8 R]) R X 0 E1.ok (by rw [E1.lim];exact aA l E1.nx) (aA hb (aA E.nx E1.nx)) (Cu E1 s) B (by omega) (by omega);have D:bQ 0 (jK X,bR X)=bR X:=by unfold bQ;rw [if_neg (by have:=KV (jK X);simp only;omega)]
  rw [D] at K;have r:=E2.ok;have E12:=E1.trans E2;have C:h.lim<=h.nx:=by rw [E12.lim];exact aA l E12.nx
  have E3:=H7 r [o8 [.str (bR X)]];have Eall:=E.trans (E12.trans E3);have hx:lenOf (.slice h.nx 0 1 1)=some 1:=rfl;have hr:bG (ext h [o8 [.str (bR X)]]) 1 1 (.slice h.nx 0 1 1)=some [.str (bR X)]:=by show P8 ((ext h [o8 [.str (bR X)]]).get h.nx) (λrs k' rows=>L9 rs k' rows 1 0)=_;rw [u7 r];show P8 (some (Q6.cells 1 1 (T.ofList [[d9.str (bR X)]]))) _=_;rfl
  obtain⟨v5,M5,W,O5,F5⟩:=alT (lo:=m.nx) (bytes:=16) E3.ok (by rw [Eall.lim];exact Q) Eall.nx ((O.ext E12).ext E3) hx hr (by rw [H];omega) ⟨by omega,by omega⟩;have po:=λ{β:Type} (p:d9->β) q=>O5.lY p q;rw [G] at O5;have EM5:Ext m M5:=⟨F5.ok,aA Eall.nx F5.nx,F5.lim.trans Eall.lim,λi z=>(F5.old i z (by omega)).trans (Eall.old i z)⟩;obtain⟨c',out',x6',M',Y,q1,q2⟩:=ih (i+1) (by omega) tt v5 (.ptr M.nx 0) M5 N EM5 O5 (by omega);refine⟨c',out',x6',M',?_,q1,q2⟩;obtain⟨x1,x2,x3,x4,x5,x6⟩:=qw A l;obtain⟨y1,y2,y3,y4,y5,y6⟩:=qw r C;have V:h.get M.nx=some (o8 R):=by rw [E2.old _ (by simp),u7 A];rfl
  obtain⟨e,y⟩:=F;have J:Go.AM.vS (some (o8 (r4 0 0 [] nS))) 0 R=some (o8 R):=by rw [gY (by simp [e]) (by simp)];simp [e]
  have I:ES (some (o8 R)) 0 4=some (.agg R):=by rw [ku (by omega) (by omega),q9,Xb (by omega)]
  rw [l8,← Y];simp [NQ,I5,J5,x1,x2,x3,x4,x5,x6,y1,y2,y3,y4,y5,y6,r9,S,t,b,x,e,y,J,I,K,V,W,po,bs1,J7 (i:=i) (by omega)]
theorem TR (l:List Ex)(h:aU l=true)(hp:S9 l<=10000):(aW [44,32] (l.map bR)).length<1000000:=by have:=sF l h;unfold aG at this;omega
theorem Ql {n fu d:Nat}(x:20000<=fu)(e:aak (n+1) fu d):C73 (n+2) fu d:=by intro m v a p y l h o q w;obtain⟨s,i,j⟩:=h;have c:=H6.len j;have b:=i.slice.len;rw [c] at b;have z:=O0 a;obtain⟨D,r,C,M',g,A,B⟩:=aal e p y l a i j o q w a.length 0 (by omega) .undef nS .undef m fu (Ext.refl p) (.inl ⟨rfl,rfl⟩) (by omega);have t:A9 (λf m k=>NQ (l7 KW fu (n+1)) fu none f m k) fu (Ai v (iV 0) (iV (a.length:Int)) .undef v nS .undef (.str [])) m []=_:=g;have u:=ZI (lo:=m.nx) l B [44,32] (by simp;omega) (TR a o q) n fu;refine⟨M',?_,A⟩;rw [enter (sf:=f73) rfl rfl];simp [f73,b,t,u,aG]
theorem Jh {k n:Int}{s:List UInt8}{a:List Ex}(h:lZ (.mk k n s a)=true):X9 k≠-2∧(X9 k<0∨(a.length:Int)=X9 k)∧(k=1->0<=n∧n<=9007199254740992)∧(k=2∨k=3->Aj s=true)∧aU a=true:=by simp only [lZ,U9,ae4,decide_eq_true_eq] at h;obtain⟨⟨⟨⟨e,f⟩,c⟩,d⟩,g⟩:=h;refine⟨e,f,λb=>?_,λb=>?_,g⟩;rw [if_pos b] at c;simpa using c;rw [if_pos b] at d;exact d
theorem FT {k:Int}(h:X9 k≠-2):k=1∨k=2∨k=3∨k=4∨k=5∨(6<=k∧k<=18):=by unfold X9 at h;by_cases h3:k=3;omega;by_cases h1:k=1∨k=2;omega;by_cases h4:k=4∨k=5;omega;by_cases h6:6<=k∧k<=18;omega;rw [if_neg h3,if_neg h1,if_neg h4,if_neg h6] at h;exact absurd rfl h
theorem aiG {n fu d:Nat}(ak:20000<=fu)(a9:C73 (n+3) fu d)(z:aak (n+3) fu d){m:Mem}{row:List d9}{e:Ex}(least:Int)(H:m.Ok)(G:m.lim<=m.nx)(hb:13<=m.nx)(h:bF m (λ_=>True) e row)(hf:lZ e=true)(hp:oJ e<=10000)(hd:qx e<=d+1)(ac:¬ kN (jK e)<least):
  ∃m',l7 KW fu (n+4) (.func 113) [.agg row,iV least] m=some [⟨.str (bR e),m'⟩]∧Ext m m':=by
 obtain⟨c,l,g,a⟩:=e;obtain⟨v,x,rfl,F,S⟩:=h;have R:=F.slice.r9;have N:=F.slice.cells;have b:=H6.len S;have a0:=F.slice.len;rw [b] at a0;have am:=O0 a;have hL:=gG _ hf;obtain⟨p1,p2,p3,p4,A⟩:=Jh hf;rw [oJ] at hp hL;rw [qx] at hd;have E:=H7 H [o8 (r4 c l g v)];have p:=λm=>Rt c (n+2) fu m;have t:¬ kN c<least:=ac;have w:(ext m [o8 (r4 c l g v)]).lim<=(ext m [o8 (r4 c l g v)]).nx:=by rw [E.lim];exact aA G E.nx
 have J:13<=(ext m [o8 (r4 c l g v)]).nx:=aA hb E.nx;rw [bR] at hL ⊢;have ss:∀s:List UInt8,aB 100 (.str s) (.str s)=true:=λs=>ig 99 s;have sv:aB 100 v v=true:=jI F.slice 99;rcases FT p1 with rfl | rfl | rfl | rfl | rfl | ⟨hk6,hk18⟩;obtain⟨q1,q2⟩:=p3 rfl;have gi:=ZH l q1 (by omega) (n+2) fu (ext m [o8 (r4 1 l g v)]);refine⟨_,?_,E⟩;rw [show kP 1 l g (sw a)=Lib.itoa l from rfl];rw [enter (sf:=f113) rfl rfl];simp [f113,P5 H G,r9,R,N,p,fO,t,gi];refine⟨_,?_,E⟩;rw [show kP 2 l g (sw a)=g from rfl];rw [enter (sf:=f113) rfl rfl];simp [f113,P5 H G,r9,R,N,p,fO,t];obtain⟨M1,a8,E1⟩:=a9 (ext m [o8 (r4 3 l g v)]) v a E.ok w J (iZ.ext ⟨x,F,S⟩ E) A (by omega) (by omega);have aa:M1.get m.nx=some (o8 (r4 3 l g v)):=(E1.old m.nx (by simp)).trans (by rw [u7 H];rfl);have hJ:=sF a A;have hs:=zZ (p4 (.inr rfl));have K:I6 g [40]=some (.str (g ++ [40])):=F6 (by simp;omega);have t2:I6 (g ++ [40]) (aG a)=some (.str (g++40::aG a)):=by rw [F6 (by simp;omega)];simp
 have t3:I6 (g++40::aG a) [41]=some (.str (g++40::(aG a ++ [41]))):=by rw [F6 (by simp;omega)];simp
 have O:kP 3 l g (sw a)=g++40::(aG a ++ [41]):=by show g++(40::(aW [44,32] ((sw a).map (·.2)) ++ [41]))=_;rw [KR,ad4];simp [aG];rfl
 refine⟨M1,?_,E.trans E1⟩;rw [O];rw [enter (sf:=f113) rfl rfl];simp [f113,P5 H G,r9,R,N,p,fO,t,a8,aa,ss,K,t2,t3]
 have y:a.length=1:=by have:X9 4=1:=rfl
                       omega
 obtain⟨X,rfl⟩:=ac9.1 y;obtain⟨D,o1,T,a2,a3,U,a5⟩:=(F.slice.ext E).at (i:=0) (by rw [b];simp);have u:=T;simp at u;have o:=H6.get S 0 (by simp) (by rw [b];simp);have a6:=o.row;have j:=U 0 4 (by omega) (by omega);rw [q9,Xb (by omega),Y3] at j;generalize x[0]'(by rw [b];simp)=R0 at *;rw [S9,S9] at hp;rw [ah,ah] at hd;rw [aU,U9] at A;have W:bF m (λ_=>True) X R0:=o;have j:ES ((ext m [o8 (r4 4 l g v)]).get D) o1 4=some (.agg R0):=j;obtain⟨M1,B,E1⟩:=z (ext m [o8 (r4 4 l g v)]) R0 X 6 E.ok w J (Cu E W) A.1 (by omega) (by omega);have Z:=gG X A.1;have Q:=fK 6 (jK X,bR X);have K:I6 [45] (bQ 6 (jK X,bR X))=some (.str (45::bQ 6 (jK X,bR X))):=F6 (by simp only [Y1,abw];simp only at Q;omega);have O:kP 4 l g (sw [X])=45::bQ 6 (jK X,bR X):=rfl;refine⟨M1,?_,E.trans E1⟩;rw [O];rw [enter (sf:=f113) rfl rfl];simp [f113,P5 H G,r9,R,N,p,fO,t,u,j,B,K]
 have y:a.length=1:=by have:X9 5=1:=rfl
                       omega
 obtain⟨X,rfl⟩:=ac9.1 y;obtain⟨D,o1,T,a2,a3,U,a5⟩:=(F.slice.ext E).at (i:=0) (by rw [b];simp);have u:=T;simp at u;have o:=H6.get S 0 (by simp) (by rw [b];simp);have a6:=o.row;have j:=U 0 4 (by omega) (by omega);rw [q9,Xb (by omega),Y3] at j;generalize x[0]'(by rw [b];simp)=R0 at *;rw [S9,S9] at hp;rw [ah,ah] at hd;rw [aU,U9] at A;have W:bF m (λ_=>True) X R0:=o;have j:ES ((ext m [o8 (r4 5 l g v)]).get D) o1 4=some (.agg R0):=j;obtain⟨M1,B,E1⟩:=z (ext m [o8 (r4 5 l g v)]) R0 X 2 E.ok w J (Cu E W) A.1 (by omega) (by omega);have Z:=gG X A.1;have Q:=fK 2 (jK X,bR X);have K:I6 [110,111,116,32] (bQ 2 (jK X,bR X))=some (.str ([110,111,116,32]++bQ 2 (jK X,bR X))):=F6 (by simp only [Y1,abw];simp only at Q;omega);have O:kP 5 l g (sw [X])=[110,111,116,32]++bQ 2 (jK X,bR X):=rfl;refine⟨M1,?_,E.trans E1⟩;rw [O];rw [enter (sf:=f113) rfl rfl];simp [f113,P5 H G,r9,R,N,p,fO,t,u,j,B,K];have P:a.length=2:=by
  have:X9 c=2:=by unfold X9;rw [if_neg (by omega),if_neg (by omega),if_neg (by omega),if_pos ⟨hk6,hk18⟩]
  omega
 obtain⟨X,Y,rfl⟩:∃X Y,a=[X,Y]:=by
  match a,P with
  | [X,Y],_=>exact⟨X,Y,rfl⟩
 have k1:¬ c=1:=by omega
 have k2:¬ c=2:=by omega
 have k3:¬ c=3:=by omega
 have k4:¬ c=4:=by omega
 have k5:¬ c=5:=by omega
 have ai:=KV c;obtain⟨D,o1,T,a2,a3,U,a5⟩:=(F.slice.ext E).at (i:=0) (by rw [b];simp);have u:=T;simp at u;have o:=H6.get S 0 (by simp) (by rw [b];simp);have a6:=o.row;have j:=U 0 4 (by omega) (by omega);rw [q9,Xb (by omega),Y3] at j;obtain⟨a7,o2,b1,b2,b3,b4,b5⟩:=(F.slice.ext E).at (i:=1) (by rw [b];simp);have C:=H6.get S 1 (by simp) (by rw [b];simp);have aj:=C.row;generalize x[0]'(by rw [b];simp)=R0 at *;rw [S9,S9,S9] at hp;rw [ah,ah,ah] at hd;rw [aU,aU,U9,U9] at A;have W:bF m (λ_=>True) X R0:=o;have j:ES ((ext m [o8 (r4 c l g v)]).get D) o1 4=some (.agg R0):=j;have af:∀f:Int,(if kN c=3 then 4 else kN c)=f->∃m',l7 KW fu (n+4) (.func 113) [.agg (r4 c l g v),iV least] m=some [⟨.str (kP c l g (sw [X,Y])),m'⟩]∧Ext m m':=by
  intro f r;obtain⟨M1,g1,E1⟩:=z (ext m [o8 (r4 c l g v)]) R0 X f E.ok w J (Cu E W) A.1 (by omega) (by omega);have E1':=E.trans E1;have ab:M1.lim<=M1.nx:=by rw [E1'.lim];exact aA G E1'.nx
  have g2:=aaj E1.ok ab (n+2) fu;have E2:=H7 E1.ok [.map aF];have E2':=E1'.trans E2;obtain⟨jd,oo,c1,c2,c3,c4,c5⟩:=(F.slice.ext E2').at (i:=1) (by rw [b];simp);have L:=c1;simp at L;have M:=c4 0 4 (by omega) (by omega);rw [q9,Xb (by omega),Y3] at M;rw [b1] at c1;cases c1;have I:=b4 0 4 (by omega) (by omega);rw [q9,Xb (by omega),Y3] at I;generalize x[1]'(by rw [b];simp)=R1 at *;have hY:bF m (λ_=>True) Y R1:=C;have V:ES (M1.get a7) o2 4=some (.agg R1):=by rw [E1.old a7 b2];exact I
  obtain⟨M3,g3,E3⟩:=z (ext M1 [.map aF]) R1 Y (kN c+1) E2.ok (by rw [E2'.lim];exact aA G E2'.nx) (aA hb E2'.nx) (Cu E2' hY) A.2.1 (by omega) (by omega);have E3':=E2'.trans E3;have r0:(ext m [o8 (r4 c l g v)]).get m.nx=some (o8 (r4 c l g v)):=by rw [u7 H];rfl
  have r1:M1.get m.nx=some (o8 (r4 c l g v)):=(E1.old m.nx (by simp)).trans r0;have r2:(ext M1 [.map aF]).get m.nx=some (o8 (r4 c l g v)):=(E2.old m.nx (gI (by simp) E1.nx)).trans r1;have r3:M3.get m.nx=some (o8 (r4 c l g v)):=(E3.old m.nx (gI (gI (by simp) E1.nx) E2.nx)).trans r2;have u2:(ext M1 [.map aF]).get M1.nx=some (.map aF):=by rw [u7 E1.ok];rfl
  have u3:M3.get M1.nx=some (.map aF):=(E3.old M1.nx (by simp)).trans u2;have lk:=Xk hk6 hk18;have sy:aB 100 (.agg R1) (.agg R1)=true:=Oe hY;have si:∀(k:IntKind) (i:Int),aB 100 (.int k i) (.int k i)=true:=λk i=>vT 99 k i;have Z:=gG X A.1;have al:=gG Y A.2.1;have ad:=fK f (jK X,bR X);have ae:=fK (kN c+1) (jK Y,bR Y);have an:=KT c;simp only at ad ae;have K:I6 (bQ f (jK X,bR X)) [32]=some (.str (bQ f (jK X,bR X) ++ [32])):=F6 (by simp;omega);have t2:I6 (bQ f (jK X,bR X) ++ [32]) (KQ c)=some (.str (bQ f (jK X,bR X)++32::KQ c)):=by rw [F6 (by simp;omega)];simp
  have t3:I6 (bQ f (jK X,bR X)++32::KQ c) [32]=some (.str (bQ f (jK X,bR X)++32::(KQ c ++ [32]))):=by rw [F6 (by simp;omega)];simp
  have t4:I6 (bQ f (jK X,bR X)++32::(KQ c ++ [32])) (bQ (kN c+1) (jK Y,bR Y))=some (.str (bQ f (jK X,bR X)++32::(KQ c++32::bQ (kN c+1) (jK Y,bR Y)))):=by rw [F6 (by simp;omega)];simp
  have w1:jA (kN c+1)=kN c+1:=M0 (by omega) (by omega);have O:kP c l g (sw [X,Y])=bQ f (jK X,bR X)++32::(KQ c++32::bQ (kN c+1) (jK Y,bR Y)):=by unfold kP;rw [if_neg k1,if_neg k2,if_neg k3,if_neg k4,if_neg k5,r];simp [sw]
  refine⟨M3,?_,E3'⟩;rw [O];generalize kN c=q at *;by_cases h3:q=3;rw [if_pos h3] at r;subst h3;subst r;have ag:jA 4=4:=M0 (by omega) (by omega);rw [show (3:Int)+1=4 from rfl] at *;rw [enter (sf:=f113) rfl rfl];simp [f113,P5 H G,r9,R,N,p,fO,t,k1,k2,k3,k4,k5,ag,u,j,L,V,I,M,r0,r1,r2,r3,u2,u3,lk,sy,si,ss,sv,g1,g2,g3,K,t2,t3,t4];rw [if_neg h3] at r;subst r;rw [enter (sf:=f113) rfl rfl];simp [f113,P5 H G,r9,R,N,p,fO,t,k1,k2,k3,k4,k5,h3,w1,u,j,L,V,I,M,r0,r1,r2,r3,u2,u3,lk,sy,si,ss,sv,g1,g2,g3,K,t2,t3,t4]
 exact af _ rfl
theorem aam (fu:Nat)(c:20000<=fu):∀d n:Nat,3*d+2<=n->aak n fu d:=by
 intro d;induction d with
 | zero=>intro n C m y e least s r u h q w p;obtain⟨b,f,g,a⟩:=e;rw [qx] at p;omega
 | succ d ih=>
  intro n C m y e least s r u h q w p;obtain⟨n,rfl⟩:∃k,n=k+5:=⟨n-5,by omega⟩;by_cases hlv:kN (jK e)<least
  case neg=>have t:bQ least (jK e,bR e)=bR e:=if_neg hlv;rw [t];exact aiG (n:=n+1) c (Ql c (ih (n+3) (by omega))) (ih (n+4) (by omega)) least s r u h q w p hlv
  have t:bQ least (jK e,bR e)=40::(bR e ++ [41]):=if_pos hlv;rw [t];have I:=gG e q;have J:=h.row;have o:=h;obtain⟨b,f,g,a⟩:=e;obtain⟨v,A,rfl,z,H⟩:=h;have D:=z.slice.r9;have B:=z.slice.cells;have E:=H7 s [o8 (r4 b f g v)];obtain⟨M1,i,E1⟩:=aiG (n:=n) c (Ql c (ih (n+2) (by omega))) (ih (n+3) (by omega)) 0 E.ok (by rw [E.lim];exact aA r E.nx) (aA u E.nx) (Cu E o) q w p (by have:=KV (jK (.mk b f g a));omega);have j:=λm=>Rt b (n+3) fu m;have l:kN b<least:=hlv;have F:I6 [40] (bR (.mk b f g a))=some (.str (40::bR (.mk b f g a))):=F6 (by simp only [Y1,abw];omega);have G:I6 (40::bR (.mk b f g a)) [41]=some (.str (40::(bR (.mk b f g a) ++ [41]))):=F6 (by simp only [Y1,abw];omega);generalize bR (.mk b f g a)=x at *;refine⟨M1,?_,E.trans E1⟩;rw [enter (sf:=f113) rfl rfl];simp [f113,P5 s r,r9,D,B,j,l,i,F,G]
theorem ae8 (fu:Nat)(a:20000<=fu)(d n:Nat)(h:3*d+3<=n):C73 n fu d:=by obtain⟨n,rfl⟩:∃k,n=k+2:=⟨n-2,by omega⟩;exact Ql a (aam fu a d (n+1) (by omega))
theorem aiH {n:Nat}(h:n<=100000000):big n 1 1=true:=by show bi (Nat.ble ((2*n+2048)*1) 281474976710656) (bi true true false) false=true;rw [show Nat.ble ((2*n+2048)*1) 281474976710656=true from Y4 (by omega)];rfl
noncomputable def tU (v:d9)(m:Mem):Option d9:=match v with
 | .nilPtr=>some .nilPtr
 | .ptr id off=>P8 (m.get id) λrs n _=>bi (Nat.blt off (Nat.mul n rs)) (some (.ptr id off)) none
 | _=>none
theorem TS (x:OF)(ls:List d9)(env:T d9)(m:Mem):qY x ls env m=tU (x ls env) m:=rfl
noncomputable def fU (oks:List (Nat×Nat))(v:d9)(m:Mem):Option d9:=match v with
 | .nilPtr=>some .nilPtr
 | .ptr id off=>P8 (m.get id) λ_ n rows=>bi (Nat.beq n 1) (ob (Dy rows) λty=>bi (UA ty off oks) (some (.ptr id off)) none) none
 | _=>none
theorem Og (a:List (Nat×Nat))(x:OF)(ls:List d9)(env:T d9)(m:Mem):jP a x ls env m=fU a (x ls env) m:=rfl
noncomputable def sD (v:d9):Option d9:=qU v (some .nilPtr) (λid off _ cap=>bi (Nat.blt 0 cap) (some (.ptr id off)) none) (λid off len _=>bi (Nat.blt 0 len) (some (.ptr id off)) none)
theorem FU (x:OF)(ls:List d9)(env:T d9)(m:Mem):CY x ls env m=sD (x ls env):=rfl
noncomputable def eU (ty:Nat)(p n:d9)(m:Mem):eD:=Yh n λk=>match p with
 | .nilPtr=>bi (Nat.beq k 0) (one (.str []) m) none
 | .ptr id off=>bi (Nat.beq off 0) (bi (Nat.ble m.lim id) (match m.get id with
  | some (.buf ty' s)=>bi (Nat.beq ty ty') (bi (Nat.beq k (len' s)) (bi (Nat.ble k 9223372036854775807) (one (.str s) (m.set id .dead)) none) none) none
  | _=>none) none) none
 | _=>none
theorem Oh (a:Nat)(p n:OF)(cf:G9)(ls:List d9)(env:T d9)(m:Mem):Qu a p n cf ls env m=eU a (p ls env) (n ls env) m:=rfl
def Bu (lo:Nat)(M:Mem)(p:Nat)(s:List UInt8):Prop:=lo<=p∧p<M.nx∧∃a v,M.get p=some (eB 123 [a,v])∧(a=.nilPtr∨a=.ptr p 0)∧
 ((v=nS∧s=[])∨∃id,lo<=id∧id<M.nx∧id≠p∧v=.sliceU id 0 s.length 1∧M.get id=some (.buf 5 s)∧s≠[])
theorem Bu.ext {lo p:Nat}{M c:Mem}{s:List UInt8}(h:Bu lo M p s)(e:Ext M c):Bu lo c p s:=by obtain⟨f,d,a,v,g,i,b⟩:=h;refine⟨f,gI d e.nx,a,v,(e.old p d).trans g,i,?_⟩;rcases b with b | ⟨id,q1,q2,q3,q4,q5,q6⟩;exact .inl b;exact .inr ⟨id,q1,gI q2 e.nx,q3,q4,(e.old id q2).trans q5,q6⟩
theorem mg (a v:d9):eB 123 [a,v]=.cells 2 1 (.nd (.nd .e (Ut 123) .e) [a,v] .e):=rfl
theorem KX {a v:d9}:ld1 (some (eB 123 [a,v])) 0=some a:=by rw [mg];rfl
theorem KY {a v:d9}:ld1 (some (eB 123 [a,v])) 1=some v:=by rw [mg];rfl
theorem aan {a v x:d9}:Go.AM.vS (some (eB 123 [a,v])) 0 [x]=some (eB 123 [x,v]):=by rw [mg,mg];rfl
theorem aao {a v x:d9}:Go.AM.vS (some (eB 123 [a,v])) 1 [x]=some (eB 123 [a,x]):=by rw [mg,mg];rfl
theorem aap {M:Mem}{p:Nat}{a v:d9}(c:M.Ok)(hp:p<M.nx)(g:M.lim<=p)(b:M.get p=some (eB 123 [a,v]))(e:a=.nilPtr∨a=.ptr p 0)(n fu:Nat):
  ∃M',l7 KW fu (n+1) (.func 112) [.ptr p 0] M=some [⟨.tuple [],M'⟩]∧M'.Ok∧M'.nx=M.nx∧M'.lim=M.lim∧M'.get p=some (eB 123 [.ptr p 0,v])∧∀i,i≠p->M'.get i=M.get i:=by
 rcases e with rfl | rfl;have h:=G8 (m:=M) c (eB 123 [.ptr p 0,v]) hp rfl;refine⟨M.set p (eB 123 [.ptr p 0,v]),?_,Mem.Ok.set c hp _,by simp,by simp,h,λi f=>V7 c _ hp f⟩;have j:tU (.ptr p 0) M=some (.ptr p 0):=by show P8 (M.get p) _=_;rw [b,mg];rfl
 have l:fU [(123,0),(241,2),(242,2)] (.ptr p 0) M=some (.ptr p 0):=by show P8 (M.get p) _=_;rw [b,mg];rfl
 have d:storeAt M p 0 [.ptr p 0]=λ(k:Mem->eD)=>k (M.set p (eB 123 [.ptr p 0,v])):=by funext k;rw [rX g,b,aan];rfl
 rw [enter (sf:=f112) rfl rfl];simp [f112,b,KX,iH,iE,TS,Og,j,l,d];refine⟨M,?_,c,rfl,rfl,b,λ_ _=>rfl⟩;rw [enter (sf:=f112) rfl rfl];simp [f112,b,KX,iH,iE]
theorem ae9 {lo p:Nat}{M:Mem}{s:List UInt8}(Q:M.Ok)(V:M.lim<=lo)(h:Bu lo M p s)(t:List UInt8)(hb:s.length+t.length<=1000000)(n fu:Nat):
  ∃v M',l7 KW fu (n+2) (.func 72) [.ptr p 0,.str t] M=some [⟨.tuple [v,.nilIface],M'⟩]∧M'.Ok∧M.nx<=M'.nx∧M'.lim=M.lim∧Bu lo M' p (s++t)∧(∀i,i<lo->M'.get i=M.get i)∧∀i rs n rows,i≠p->M.get i=some (.cells rs n rows)->M'.get i=M.get i:=by
 obtain⟨K,H,a,v,S,R,A⟩:=h;obtain⟨M1,O,c,n1,Z,F,E⟩:=aap Q H (by omega) S R n fu;have U:M1.lim<=p:=by omega
 have z:∀(j:d9) (M2:Mem),(∀(x y:OF) (G:G9) (D:List d9) (e:T d9),x D e=v->y D e=.str t->wI 5 x y G D e M1=some [⟨j,M2⟩])->j.cells=[j]->r9 j=true->(∀{β:Type} (f:d9->β) q,bU j f q=q)->M2.Ok->M1.nx<=M2.nx->M2.lim=M1.lim->(∀i,i<lo∨i=p->M2.get i=M1.get i)->(∀i rs n rows,M1.get i=some (.cells rs n rows)->M2.get i=M1.get i)->
   ((j=nS∧s++t=[])∨∃id,lo<=id∧id<M2.nx∧id≠p∧j=.sliceU id 0 (s++t).length 1∧M2.get id=some (.buf 5 (s++t))∧s++t≠[])->
   ∃v M',l7 KW fu (n+2) (.func 72) [.ptr p 0,.str t] M=some [⟨.tuple [v,.nilIface],M'⟩]∧M'.Ok∧M.nx<=M'.nx∧M'.lim=M.lim∧Bu lo M' p (s++t)∧(∀i,i<lo->M'.get i=M.get i)∧∀i rs n rows,i≠p->M.get i=some (.cells rs n rows)->M'.get i=M.get i:=by
  intro j M2 P N X Y l n2 l2 L W w;have g:p<M2.nx:=by omega
  have I:M2.get p=some (eB 123 [.ptr p 0,v]):=(L p (.inr rfl)).trans F;have J:storeAt M2 p 1 [j]=λ(k:Mem->eD)=>k (M2.set p (eB 123 [.ptr p 0,j])):=by
   funext k;rw [rX (by omega),I,aao];have:K7 [j]=true:=by rw [bD,X];rfl
   rw [this];rfl
  refine⟨iV (t.length:Int),M2.set p (eB 123 [.ptr p 0,j]),?_,Mem.Ok.set l g _,by simp;omega,by simp;omega,⟨K,by simpa using g,.ptr p 0,j,G8 l _ g rfl,.inr rfl,?_⟩,λi r=>?_,λi rs n rows r o=>?_⟩;rw [enter (sf:=f72) rfl rfl];simp [f72,O,F,KX,KY,P,N,Y,J];rcases w with w | ⟨id,q1,q2,q3,q4,q5,q6⟩;exact .inl w;exact .inr ⟨id,q1,by simpa using q2,q3,q4,(V7 l _ g q3).trans q5,q6⟩;rw [V7 l _ g (by omega),L i (.inl r),E i (by omega)];rw [V7 l _ g r,W i rs n rows ((E i r).trans o),E i r]
 cases t with
 | nil=>
  refine z v M1 (λx y G D e B C=>?_) ?_ ?_ ?_ c (J2 _) rfl (λ_ _=>rfl) (λ_ _ _ _ _=>rfl) ?_;rcases A with⟨rfl,rfl⟩ | ⟨id,q1,q2,q3,rfl,q5,q6⟩;unfold wI;rw [B,C];rfl;unfold wI;rw [B,C];have m:=(E id q3).trans q5;simp only [m];show bi true (bi true (bi true (bi (Nat.beq s.length (len' s)) (bi (Nat.ble M1.lim id) _ none) none) none) none) none=_;rw [I9,show Nat.beq s.length s.length=true from abp _,show Nat.ble M1.lim id=true from Y4 (by omega)];rfl;rcases A with⟨rfl,rfl⟩ | ⟨id,q1,q2,q3,rfl,q5,q6⟩<;>rfl
  rcases A with⟨rfl,rfl⟩ | ⟨id,q1,q2,q3,rfl,q5,q6⟩<;>rfl
  rcases A with⟨rfl,rfl⟩ | ⟨id,q1,q2,q3,rfl,q5,q6⟩<;>exact λ_ _=>rfl
  rw [ad6];rcases A with⟨rfl,rfl⟩ | ⟨id,q1,q2,q3,rfl,q5,q6⟩;exact .inl ⟨rfl,rfl⟩;exact .inr ⟨id,q1,by omega,q3,rfl,(E id q3).trans q5,q6⟩
 | cons b t=>
  rcases A with⟨rfl,rfl⟩ | ⟨id,q1,q2,q3,rfl,q5,q6⟩;refine z (.sliceU M1.nx 0 (b::t).length 1) (M1.new (.buf 5 (b::t))) (λx y G D e B C=>?_) rfl rfl (λ_ _=>rfl) (Mem.Ok.new c _) (by simp) (by simp) (λi r=>?_) (λi rs n rows o=>?_) (.inr ⟨M1.nx,by omega,by simp,by omega,rfl,by rw [Mem.K5 c,if_pos rfl];rfl,by simp⟩);unfold wI;rw [B,C];show bi (big (len' (b::t)) 1 1) (one (.sliceU M1.nx 0 (len' (b::t)) 1) (M1.new (.buf 5 (b::t)))) none=_;rw [I9,aiH (by simp at hb ⊢;omega)];rfl;rw [Mem.K5 c,if_neg (by omega)];have:=Mem.I7 c o;rw [Mem.K5 c,if_neg (by omega)];have m:=(E id q3).trans q5;have u:id<M1.nx:=by omega
  have d:(M1.set id .dead).Ok:=Mem.Ok.set c u _;refine z (.sliceU M1.nx 0 (s++b::t).length 1) ((M1.set id .dead).new (.buf 5 (s++b::t))) (λx y G D e B C=>?_) rfl rfl (λ_ _=>rfl) (Mem.Ok.new d _) (by simp) (by simp) (λi r=>?_) (λi rs n rows o=>?_) (.inr ⟨M1.nx,by omega,by simp,by omega,rfl,by rw [Mem.K5 d,if_pos (by simp)],by simp⟩);unfold wI;rw [B,C];simp only [m];show bi true (bi true (bi true (bi (Nat.beq s.length (len' s)) (bi (Nat.ble M1.lim id) (bi (big (Nat.add s.length (len' (b::t))) 1 1) (one (.sliceU M1.nx 0 (Nat.add s.length (len' (b::t))) 1) ((M1.set id .dead).new (.buf 5 (U2 s (b::t))))) none) none) none) none) none) none=_;rw [I9,I9,O4,show Nat.beq s.length s.length=true from abp _,show Nat.ble M1.lim id=true from Y4 (by omega),show Nat.add s.length (b::t).length=(s++b::t).length from by simp,aiH (by simp at hb ⊢;omega)];rfl;rw [Mem.K5 d,if_neg (by simp;omega),V7 c _ u (by omega)];have K:=Mem.I7 c o;have H:i≠id:=λh=>by subst h;rw [m] at o;cases o
  rw [Mem.K5 d,if_neg (by simp;omega),V7 c _ u H]
theorem Xm {lo p:Nat}{M:Mem}{s:List UInt8}(b:M.Ok)(g:M.lim<=lo)(h:Bu lo M p s)(hb:s.length<=1000000)(n fu:Nat):
  ∃M',l7 KW fu (n+1) (.func 74) [.ptr p 0] M=some [⟨.str s,M'⟩]∧M'.Ok∧M'.nx=M.nx∧M'.lim=M.lim∧∀i,i<lo->M'.get i=M.get i:=by
 obtain⟨k,l,a,v,f,m,j⟩:=h;rcases j with⟨rfl,rfl⟩ | ⟨id,q1,q2,q3,rfl,q5,q6⟩;refine⟨M,?_,b,rfl,rfl,λ_ _=>rfl⟩;have d:sD nS=some .nilPtr:=rfl;have e:eU 5 .nilPtr (iV 0) M=some [⟨.str [],M⟩]:=rfl;rw [enter (sf:=f74) rfl rfl];simp [f74,f,KY,FU,Oh,d,e];have c:0<s.length:=ad1.2 q6;refine⟨M.set id .dead,?_,Mem.Ok.set b q2 _,by simp,by simp,λi o=>V7 b _ q2 (by omega)⟩;have d:sD (.sliceU id 0 s.length 1)=some (.ptr id 0):=by show bi (Nat.blt 0 s.length) (some (d9.ptr id 0)) none=_;rw [show Nat.blt 0 s.length=true from Y5.mpr c];rfl
 have e:eU 5 (.ptr id 0) (iV (s.length:Int)) M=some [⟨.str s,M.set id .dead⟩]:=by
  unfold eU;show bi (Nat.beq 0 0) (bi (Nat.ble M.lim id) (match M.get id with
   | some (.buf ty' s')=>bi (Nat.beq 5 ty') (bi (Nat.beq s.length (len' s')) (bi (Nat.ble s.length 9223372036854775807) (one (.str s') (M.set id .dead)) none) none) none
   | _=>none) none) none=_
  rw [q5,show Nat.ble M.lim id=true from Y4 (by omega)];show bi (Nat.beq s.length (len' s)) (bi (Nat.ble s.length 9223372036854775807) (one (.str s) (M.set id .dead)) none) none=_;rw [I9,show Nat.beq s.length s.length=true from abp _,show Nat.ble s.length 9223372036854775807=true from Y4 (by omega)];rfl
 rw [enter (sf:=f74) rfl rfl];simp [f74,f,KY,FU,Oh,d,e]
end Go.Proofs.YteecnooaopfkeaaGreatDoor.TT
