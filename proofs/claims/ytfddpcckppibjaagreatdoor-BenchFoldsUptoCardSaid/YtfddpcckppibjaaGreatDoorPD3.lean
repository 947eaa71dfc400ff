/- Well-formed statements, walked; conditions: the memory holds what the arguments say. -/
import Derived.Test.YtfddpcckppibjaaGreatDoorPD2
import Derived.Lib.ItoaNum
import Derived.KernelRfl
set_option linter.all false
namespace Go.Proofs.YtfddpcckppibjaaGreatDoor.TT
open Go Go.AM
set_option maxRecDepth 100000
set_option maxHeartbeats 8000000
def C17 (n fu d:Nat):Prop:=∀(m:Mem) (v:d9) (l:List V7),m.Ok->m.lim<=m.nx->O4 m (λ_=>True) l v->U2 l<=10000->au l<=d->
 ∃m',l7 KW fu n (.func 24) [v] m=some [⟨.bool (aT l),m'⟩]∧Ext m m'
theorem Yh {n fu d:Nat}(s:20000<=fu)(e:C37 n fu d):C17 (n+1) fu d:=by
 intro m v l j t h w r;obtain⟨o,f,i⟩:=h;have a:=H6.len i;have b:=f.slice.len;rw [a] at b;have u:=U0 l;rcases abj e j t l f i w r l.length 0 (by omega) .undef .undef m fu (Ext.refl j) (by omega) with⟨ha,c',e',M',g,q⟩ | ⟨ha,i',c',e',M',g,q⟩;all_goals
  have p:C8 (λc m k=>zW (l7 KW fu n) fu none c m k) fu (XJ (iV 0) v .undef .undef ff) m []=_:=g;rw [q8] at ha;refine⟨M',?_,q⟩;rw [enter (sf:=f24) rfl rfl];simp [f24,p,ha]
def fmQ (k:Int)(e:List Ex)(t f:List V7):Prop:=e.length≠0∧(e.length<=1∨k=5)∧(t.length=0∨k=3∨k=4)∧(f.length=0∨k=3)∧(k≠6∨(e.map Yg).head?=some 3)
theorem Q9 {k:Int}{s:List UInt8}{e:List Ex}{t f:List V7}(h:¬ fmQ k e t f):tQ (.mk k s e t f)=false:=by
 cases hh:tQ (.mk k s e t f) with
 | false=>rfl
 | true=>exfalso;apply h;simp only [tQ,Hl,adi,decide_eq_true_eq] at hh;obtain⟨⟨⟨⟨⟨⟨⟨⟨⟨⟨j,l⟩,m⟩,b⟩,c⟩,d⟩,g⟩,i⟩,n⟩,o⟩,p⟩:=hh;exact⟨b,c,by rcases d with (a | a) | a<;>simp [a],g,i⟩
theorem ji {k:Int}{s:List UInt8}{e:List Ex}{t f:List V7}(h:fmQ k e t f)(p:1<=k)(q:k<=6)(hs:(if k=1∨k=2 then Ai s else decide (s=[]))=true):tQ (.mk k s e t f)=(Y0 e&&aT t&&aT f):=by
 obtain⟨a,b,c,d,x⟩:=h;have g:decide (1<=k)=true:=decide_eq_true p;have i:decide (k<=6)=true:=decide_eq_true q;have j:decide (e.length≠0)=true:=decide_eq_true a;have l:(decide (e.length<=1)||decide (k=5))=true:=by simpa using b
 have m:(decide (t.length=0)||decide (k=3)||decide (k=4))=true:=by rcases c with c | c | c<;>simp [c]
 have n:(decide (f.length=0)||decide (k=3))=true:=by rcases d with d | d<;>simp [d]
 have o:(decide (k≠6)||decide ((e.map Yg).head?=some 3))=true:=by rcases x with x | x<;>simp [x]
 rw [tQ,hs,g,i,j,l,m,n,o];simp
theorem Yi {n fu d:Nat}(ab:20000<=fu)(W:∀n,d+4<=n->C79 n fu d)(F:C17 (n+3) fu d)(hn:d+1<=n):C37 (n+4) fu (d+1):=by
 intro m al s j c h hp hd;obtain⟨k0,s0,e,t,f⟩:=s;obtain⟨v,u,r,re,rt,rf,rfl,h1,h2,h4,h5,h6,h7⟩:=h;have ov:=h1.slice.u7;have cv:=h1.slice.cells;have ag:=h4.slice.u7;have aa:=h4.slice.cells;have af:=h6.slice.u7;have a9:=h6.slice.cells;have T:=A9.len h2;have a0:=h1.slice.len;rw [T] at a0;have a7:=h4.slice.len;rw [H6.len h5] at a7;have a6:=h6.slice.len;rw [H6.len h7] at a6;have a:=And.intro ov (And.intro ag (And.intro af (And.intro cv (And.intro aa (And.intro a9 (And.intro a0 (And.intro a7 a6)))))));rw [stP] at hp;rw [rJ] at hd;have E:=G6 j [l9 (r5 k0 s0 v u r)];have aj:=K8 e;have ak:=U0 t;have ai:=U0 f;by_cases k1:k0<1;refine⟨_,?_,E⟩;have ad:¬ 1<=k0:=by omega
 rw [show tQ (.mk k0 s0 e t f)=false by simp [tQ,ad]];have n1:¬ k0=1:=by omega
 have n2:¬ k0=2:=by omega
 rw [enter (sf:=f57) rfl rfl];simp [f57,P6 j c,u7,a,p9,k1,n1,n2];by_cases k2:6<k0;refine⟨_,?_,E⟩;have ae:¬ k0<=6:=by omega
 rw [show tQ (.mk k0 s0 e t f)=false by simp [tQ,ae]];have n1:¬ k0=1:=by omega
 have n2:¬ k0=2:=by omega
 rw [enter (sf:=f57) rfl rfl];simp [f57,P6 j c,u7,a,p9,k1,k2,n1,n2];have U:=eD.mono (m':=ext m [l9 (r5 k0 s0 v u r)]) h1 E.nx (λi hi _=>E.old i hi) (S':=λ_=>True) λ_ _ h=>h;have V:=yH E h2;by_cases hN:k0=1∨k0=2
 ·obtain⟨m1,z,E1⟩:=QU (n:=n) ab E.ok s0;have C:m1.get m.nx=some (l9 (r5 k0 s0 v u r)):=(E1.old m.nx (by simp)).trans (by rw [r9 j];rfl);by_cases hb:Ai s0=true
  case neg=>
   have a8:Ai s0=false:=by simpa using hb
   refine⟨m1,?_,E.trans E1⟩;rw [show tQ (.mk k0 s0 e t f)=false by simp [tQ,a8,hN]];rcases hN with rfl | rfl;all_goals
    rw [enter (sf:=f57) rfl rfl];simp [f57,P6 j c,u7,a,p9,z,a8]
  rcases hN with rfl | rfl
  ·
   by_cases e0:e.length=0;refine⟨_,?_,E.trans E1⟩;rw [Q9 (λq=>q.1 e0)];rw [enter (sf:=f57) rfl rfl];simp [f57,P6 j c,u7,a,p9,e0,z,hb,C];have I:0<e.length:=by omega
   have G:0<(e.length:Int):=by omega
   have H:¬ e=[]:=λh=>by simp [h] at e0
   have b:=And.intro I (And.intro G H);by_cases e1:1<(e.length:Int);refine⟨_,?_,E.trans E1⟩;rw [Q9 (λq=>by rcases q.2.1 with q | q<;>omega)]
   rw [enter (sf:=f57) rfl rfl];simp [f57,P6 j c,u7,a,p9,e0,b,e1,z,hb,C];by_cases e2:f.length=0
   case neg=>
    have K:0<(f.length:Int):=(by omega);have L:¬ f=[]:=λh=>(by simp [h] at e2);have M:0<f.length:=(by omega);refine⟨_,?_,E.trans E1⟩;rw [Q9 (λq=>by rcases q.2.2.2.1 with q | q<;>omega)]
    rw [enter (sf:=f57) rfl rfl];simp [f57,P6 j c,u7,a,p9,e0,b,e1,e2,M,K,L,z,hb,C]
   by_cases e3:t.length=0
   case neg=>
    have P:0<(t.length:Int):=(by omega);have Q:¬ t=[]:=λh=>(by simp [h] at e3);have S:0<t.length:=(by omega);refine⟨_,?_,E.trans E1⟩;rw [Q9 (λq=>by rcases q.2.2.1 with q | q | q<;>omega)]
    rw [enter (sf:=f57) rfl rfl];simp [f57,P6 j c,u7,a,p9,e0,b,e1,e2,e3,S,P,Q,z,hb,C]
   rw [ji (e:=e) ⟨e0,.inl (by omega),.inl e3,.inl e2,.inl (by omega)⟩ (by omega) (by omega) (by show _=_;simp [hb])];rcases wE (p:=m.nx) (R:=(r5 1 s0 v u r)) (x2:=tt) (x3:=.bool false) (x4:=.bool false) (x5:=.bool false) (x6:=.bool false) (k0:=1) (s0:=s0) (W (n+3) (by omega)) E.ok (by simp) (by rw [E.lim];exact aA c E.nx) (by rw [r9 j];rfl) e U V (by omega) (by omega) e.length 0 (by omega) .undef .undef m1 fu E1 (by omega) with⟨ha,c',e',M',g,q⟩ | ⟨ha,i',c',e',M',g,q⟩;have A:C8 (λl m k=>jK (l7 KW fu (n+3)) fu none l m k) fu (fT (.agg (r5 1 s0 v u r)) (.ptr m.nx 0) tt ff ff ff ff (iV 0) .undef .undef ff) m1 []=_:=g;rw [q8] at ha;have o:M'.get m.nx=some (l9 (r5 1 s0 v u r)):=(q.old m.nx (by simp)).trans (by rw [r9 j];rfl);have J:M'.lim<=M'.nx:=by rw [q.lim,E.lim];exact aA c (aA E.nx q.nx)
   obtain⟨D,B,E2⟩:=F M' u t q.ok J ⟨rt,rsE (E.trans q) h4,nP (E.trans q) h5⟩ (by omega) (by omega);have y:=(E2.old m.nx (gq (by simp) q.nx)).trans o;have E3:=(E.trans q).trans E2;have x:D.lim<=D.nx:=by rw [E3.lim];exact aA c E3.nx
   obtain⟨Z,N,E4⟩:=F D r f E3.ok x ⟨rf,rsE E3 h6,nP E3 h7⟩ (by omega) (by omega);by_cases ft:aT t=true;refine⟨Z,?_,E3.trans E4⟩;rw [ft] at B;rw [enter (sf:=f57) rfl rfl];simp [f57,P6 j c,u7,a,p9,e0,b,e1,e2,e3,z,hb,C,A,ha,o,y,B,N,ft];have w:aT t=false:=by simpa using ft
   refine⟨D,?_,E3⟩;rw [w] at B;rw [enter (sf:=f57) rfl rfl];simp [f57,P6 j c,u7,a,p9,e0,b,e1,e2,e3,z,hb,C,A,ha,o,y,B,N,w];have A:C8 (λl m k=>jK (l7 KW fu (n+3)) fu none l m k) fu (fT (.agg (r5 1 s0 v u r)) (.ptr m.nx 0) tt ff ff ff ff (iV 0) .undef .undef ff) m1 []=_:=g;rw [q8] at ha;refine⟨M',?_,E.trans q⟩;rw [enter (sf:=f57) rfl rfl];simp [f57,P6 j c,u7,a,p9,e0,b,e1,e2,e3,z,hb,C,A,ha]
  ·
   by_cases e0:e.length=0;refine⟨_,?_,E.trans E1⟩;rw [Q9 (λq=>q.1 e0)];rw [enter (sf:=f57) rfl rfl];simp [f57,P6 j c,u7,a,p9,e0,z,hb,C];have I:0<e.length:=by omega
   have G:0<(e.length:Int):=by omega
   have H:¬ e=[]:=λh=>by simp [h] at e0
   have b:=And.intro I (And.intro G H);by_cases e1:1<(e.length:Int);refine⟨_,?_,E.trans E1⟩;rw [Q9 (λq=>by rcases q.2.1 with q | q<;>omega)]
   rw [enter (sf:=f57) rfl rfl];simp [f57,P6 j c,u7,a,p9,e0,b,e1,z,hb,C];by_cases e2:f.length=0
   case neg=>
    have K:0<(f.length:Int):=(by omega);have L:¬ f=[]:=λh=>(by simp [h] at e2);have M:0<f.length:=(by omega);refine⟨_,?_,E.trans E1⟩;rw [Q9 (λq=>by rcases q.2.2.2.1 with q | q<;>omega)]
    rw [enter (sf:=f57) rfl rfl];simp [f57,P6 j c,u7,a,p9,e0,b,e1,e2,M,K,L,z,hb,C]
   by_cases e3:t.length=0
   case neg=>
    have P:0<(t.length:Int):=(by omega);have Q:¬ t=[]:=λh=>(by simp [h] at e3);have S:0<t.length:=(by omega);refine⟨_,?_,E.trans E1⟩;rw [Q9 (λq=>by rcases q.2.2.1 with q | q | q<;>omega)]
    rw [enter (sf:=f57) rfl rfl];simp [f57,P6 j c,u7,a,p9,e0,b,e1,e2,e3,S,P,Q,z,hb,C]
   rw [ji (e:=e) ⟨e0,.inl (by omega),.inl e3,.inl e2,.inl (by omega)⟩ (by omega) (by omega) (by show _=_;simp [hb])];rcases wE (p:=m.nx) (R:=(r5 2 s0 v u r)) (x2:=tt) (x3:=.bool false) (x4:=.bool false) (x5:=.bool false) (x6:=.bool false) (k0:=2) (s0:=s0) (W (n+3) (by omega)) E.ok (by simp) (by rw [E.lim];exact aA c E.nx) (by rw [r9 j];rfl) e U V (by omega) (by omega) e.length 0 (by omega) .undef .undef m1 fu E1 (by omega) with⟨ha,c',e',M',g,q⟩ | ⟨ha,i',c',e',M',g,q⟩;have A:C8 (λl m k=>jK (l7 KW fu (n+3)) fu none l m k) fu (fT (.agg (r5 2 s0 v u r)) (.ptr m.nx 0) tt ff ff ff ff (iV 0) .undef .undef ff) m1 []=_:=g;rw [q8] at ha;have o:M'.get m.nx=some (l9 (r5 2 s0 v u r)):=(q.old m.nx (by simp)).trans (by rw [r9 j];rfl);have J:M'.lim<=M'.nx:=by rw [q.lim,E.lim];exact aA c (aA E.nx q.nx)
   obtain⟨D,B,E2⟩:=F M' u t q.ok J ⟨rt,rsE (E.trans q) h4,nP (E.trans q) h5⟩ (by omega) (by omega);have y:=(E2.old m.nx (gq (by simp) q.nx)).trans o;have E3:=(E.trans q).trans E2;have x:D.lim<=D.nx:=by rw [E3.lim];exact aA c E3.nx
   obtain⟨Z,N,E4⟩:=F D r f E3.ok x ⟨rf,rsE E3 h6,nP E3 h7⟩ (by omega) (by omega);by_cases ft:aT t=true;refine⟨Z,?_,E3.trans E4⟩;rw [ft] at B;rw [enter (sf:=f57) rfl rfl];simp [f57,P6 j c,u7,a,p9,e0,b,e1,e2,e3,z,hb,C,A,ha,o,y,B,N,ft];have w:aT t=false:=by simpa using ft
   refine⟨D,?_,E3⟩;rw [w] at B;rw [enter (sf:=f57) rfl rfl];simp [f57,P6 j c,u7,a,p9,e0,b,e1,e2,e3,z,hb,C,A,ha,o,y,B,N,w];have A:C8 (λl m k=>jK (l7 KW fu (n+3)) fu none l m k) fu (fT (.agg (r5 2 s0 v u r)) (.ptr m.nx 0) tt ff ff ff ff (iV 0) .undef .undef ff) m1 []=_:=g;rw [q8] at ha;refine⟨M',?_,E.trans q⟩;rw [enter (sf:=f57) rfl rfl];simp [f57,P6 j c,u7,a,p9,e0,b,e1,e2,e3,z,hb,C,A,ha]
 by_cases hs:s0=[]
 case neg=>
  refine⟨_,?_,E⟩;have n1:¬ k0=1:=by omega
  have n2:¬ k0=2:=by omega
  rw [show tQ (.mk k0 s0 e t f)=false by simp [tQ,hs,n1,n2]];rw [enter (sf:=f57) rfl rfl];simp [f57,P6 j c,u7,a,p9,k1,k2,n1,n2,hs]
 subst hs;have hk:k0=3∨k0=4∨k0=5∨k0=6:=by omega
 rcases hk with rfl | rfl | rfl | rfl
 ·
  by_cases e0:e.length=0;refine⟨_,?_,E⟩;rw [Q9 (λq=>q.1 e0)];rw [enter (sf:=f57) rfl rfl];simp [f57,P6 j c,u7,a,p9,e0];have I:0<e.length:=by omega
  have G:0<(e.length:Int):=by omega
  have H:¬ e=[]:=λh=>by simp [h] at e0
  have b:=And.intro I (And.intro G H);by_cases e1:1<(e.length:Int);refine⟨_,?_,E⟩;rw [Q9 (λq=>by rcases q.2.1 with q | q<;>omega)]
  rw [enter (sf:=f57) rfl rfl];simp [f57,P6 j c,u7,a,p9,e0,b,e1];rw [ji (e:=e) ⟨e0,.inl (by omega),.inr (.inl rfl),.inr rfl,.inl (by omega)⟩ (by omega) (by omega) (by simp)];rcases wE (p:=m.nx) (R:=(r5 3 [] v u r)) (x2:=ff) (x3:=.bool false) (x4:=.bool false) (x5:=.bool false) (x6:=.bool false) (k0:=3) (s0:=[]) (W (n+3) (by omega)) E.ok (by simp) (by rw [E.lim];exact aA c E.nx) (by rw [r9 j];rfl) e U V (by omega) (by omega) e.length 0 (by omega) .undef .undef (ext m [l9 (r5 3 [] v u r)]) fu (Ext.refl E.ok) (by omega) with⟨ha,c',e',M',g,q⟩ | ⟨ha,i',c',e',M',g,q⟩;have A:C8 (λl m k=>jK (l7 KW fu (n+3)) fu none l m k) fu (fT (.agg (r5 3 [] v u r)) (.ptr m.nx 0) ff ff ff ff ff (iV 0) .undef .undef ff) (ext m [l9 (r5 3 [] v u r)]) []=_:=g;rw [q8] at ha;have o:M'.get m.nx=some (l9 (r5 3 [] v u r)):=(q.old m.nx (by simp)).trans (by rw [r9 j];rfl);have J:M'.lim<=M'.nx:=by rw [q.lim,E.lim];exact aA c (aA E.nx q.nx)
  obtain⟨D,B,E2⟩:=F M' u t q.ok J ⟨rt,rsE (E.trans q) h4,nP (E.trans q) h5⟩ (by omega) (by omega);have y:=(E2.old m.nx (gq (by simp) q.nx)).trans o;have E3:=(E.trans q).trans E2;have x:D.lim<=D.nx:=by rw [E3.lim];exact aA c E3.nx
  obtain⟨Z,N,E4⟩:=F D r f E3.ok x ⟨rf,rsE E3 h6,nP E3 h7⟩ (by omega) (by omega);by_cases ft:aT t=true;refine⟨Z,?_,E3.trans E4⟩;rw [ft] at B;rw [enter (sf:=f57) rfl rfl];simp [f57,P6 j c,u7,a,p9,e0,b,e1,A,ha,o,y,B,N,ft];have w:aT t=false:=by simpa using ft
  refine⟨D,?_,E3⟩;rw [w] at B;rw [enter (sf:=f57) rfl rfl];simp [f57,P6 j c,u7,a,p9,e0,b,e1,A,ha,o,y,B,N,w];have A:C8 (λl m k=>jK (l7 KW fu (n+3)) fu none l m k) fu (fT (.agg (r5 3 [] v u r)) (.ptr m.nx 0) ff ff ff ff ff (iV 0) .undef .undef ff) (ext m [l9 (r5 3 [] v u r)]) []=_:=g;rw [q8] at ha;refine⟨M',?_,E.trans q⟩;rw [enter (sf:=f57) rfl rfl];simp [f57,P6 j c,u7,a,p9,e0,b,e1,A,ha]
 ·
  by_cases e0:e.length=0;refine⟨_,?_,E⟩;rw [Q9 (λq=>q.1 e0)];rw [enter (sf:=f57) rfl rfl];simp [f57,P6 j c,u7,a,p9,e0];have I:0<e.length:=by omega
  have G:0<(e.length:Int):=by omega
  have H:¬ e=[]:=λh=>by simp [h] at e0
  have b:=And.intro I (And.intro G H);by_cases e1:1<(e.length:Int);refine⟨_,?_,E⟩;rw [Q9 (λq=>by rcases q.2.1 with q | q<;>omega)]
  rw [enter (sf:=f57) rfl rfl];simp [f57,P6 j c,u7,a,p9,e0,b,e1];by_cases e2:f.length=0
  case neg=>
   have K:0<(f.length:Int):=by omega
   have L:¬ f=[]:=λh=>by simp [h] at e2
   have M:0<f.length:=by omega
   refine⟨_,?_,E⟩;rw [Q9 (λq=>by rcases q.2.2.2.1 with q | q<;>omega)]
   rw [enter (sf:=f57) rfl rfl];simp [f57,P6 j c,u7,a,p9,e0,b,e1,e2,M,K,L]
  rw [ji (e:=e) ⟨e0,.inl (by omega),.inr (.inr rfl),.inl e2,.inl (by omega)⟩ (by omega) (by omega) (by simp)];rcases wE (p:=m.nx) (R:=(r5 4 [] v u r)) (x2:=ff) (x3:=.bool false) (x4:=.bool false) (x5:=.bool false) (x6:=.bool false) (k0:=4) (s0:=[]) (W (n+3) (by omega)) E.ok (by simp) (by rw [E.lim];exact aA c E.nx) (by rw [r9 j];rfl) e U V (by omega) (by omega) e.length 0 (by omega) .undef .undef (ext m [l9 (r5 4 [] v u r)]) fu (Ext.refl E.ok) (by omega) with⟨ha,c',e',M',g,q⟩ | ⟨ha,i',c',e',M',g,q⟩;have A:C8 (λl m k=>jK (l7 KW fu (n+3)) fu none l m k) fu (fT (.agg (r5 4 [] v u r)) (.ptr m.nx 0) ff ff ff ff ff (iV 0) .undef .undef ff) (ext m [l9 (r5 4 [] v u r)]) []=_:=g;rw [q8] at ha;have o:M'.get m.nx=some (l9 (r5 4 [] v u r)):=(q.old m.nx (by simp)).trans (by rw [r9 j];rfl);have J:M'.lim<=M'.nx:=by rw [q.lim,E.lim];exact aA c (aA E.nx q.nx)
  obtain⟨D,B,E2⟩:=F M' u t q.ok J ⟨rt,rsE (E.trans q) h4,nP (E.trans q) h5⟩ (by omega) (by omega);have y:=(E2.old m.nx (gq (by simp) q.nx)).trans o;have E3:=(E.trans q).trans E2;have x:D.lim<=D.nx:=by rw [E3.lim];exact aA c E3.nx
  obtain⟨Z,N,E4⟩:=F D r f E3.ok x ⟨rf,rsE E3 h6,nP E3 h7⟩ (by omega) (by omega);by_cases ft:aT t=true;refine⟨Z,?_,E3.trans E4⟩;rw [ft] at B;rw [enter (sf:=f57) rfl rfl];simp [f57,P6 j c,u7,a,p9,e0,b,e1,e2,A,ha,o,y,B,N,ft];have w:aT t=false:=by simpa using ft
  refine⟨D,?_,E3⟩;rw [w] at B;rw [enter (sf:=f57) rfl rfl];simp [f57,P6 j c,u7,a,p9,e0,b,e1,e2,A,ha,o,y,B,N,w];have A:C8 (λl m k=>jK (l7 KW fu (n+3)) fu none l m k) fu (fT (.agg (r5 4 [] v u r)) (.ptr m.nx 0) ff ff ff ff ff (iV 0) .undef .undef ff) (ext m [l9 (r5 4 [] v u r)]) []=_:=g;rw [q8] at ha;refine⟨M',?_,E.trans q⟩;rw [enter (sf:=f57) rfl rfl];simp [f57,P6 j c,u7,a,p9,e0,b,e1,e2,A,ha]
 ·
  by_cases e0:e.length=0;refine⟨_,?_,E⟩;rw [Q9 (λq=>q.1 e0)];rw [enter (sf:=f57) rfl rfl];simp [f57,P6 j c,u7,a,p9,e0];have I:0<e.length:=by omega
  have G:0<(e.length:Int):=by omega
  have H:¬ e=[]:=λh=>by simp [h] at e0
  have b:=And.intro I (And.intro G H);by_cases e1:1<(e.length:Int);all_goals (
  by_cases e2:f.length=0
  case neg=>
   have K:0<(f.length:Int):=by omega
   have L:¬ f=[]:=λh=>by simp [h] at e2
   have M:0<f.length:=by omega
   refine⟨_,?_,E⟩;rw [Q9 (λq=>by rcases q.2.2.2.1 with q | q<;>omega)]
   rw [enter (sf:=f57) rfl rfl];simp [f57,P6 j c,u7,a,p9,e0,b,e1,e2,M,K,L]
  by_cases e3:t.length=0
  case neg=>
   have P:0<(t.length:Int):=by omega
   have Q:¬ t=[]:=λh=>by simp [h] at e3
   have S:0<t.length:=by omega
   refine⟨_,?_,E⟩;rw [Q9 (λq=>by rcases q.2.2.1 with q | q | q<;>omega)]
   rw [enter (sf:=f57) rfl rfl];simp [f57,P6 j c,u7,a,p9,e0,b,e1,e2,e3,S,P,Q]
  rw [ji (e:=e) ⟨e0,.inr rfl,.inl e3,.inl e2,.inl (by omega)⟩ (by omega) (by omega) (by simp)];rcases wE (p:=m.nx) (R:=(r5 5 [] v u r)) (x2:=ff) (x3:=.bool false) (x4:=.bool false) (x5:=.bool false) (x6:=.bool false) (k0:=5) (s0:=[]) (W (n+3) (by omega)) E.ok (by simp) (by rw [E.lim];exact aA c E.nx) (by rw [r9 j];rfl) e U V (by omega) (by omega) e.length 0 (by omega) .undef .undef (ext m [l9 (r5 5 [] v u r)]) fu (Ext.refl E.ok) (by omega) with⟨ha,c',e',M',g,q⟩ | ⟨ha,i',c',e',M',g,q⟩;have A:C8 (λl m k=>jK (l7 KW fu (n+3)) fu none l m k) fu (fT (.agg (r5 5 [] v u r)) (.ptr m.nx 0) ff ff ff ff ff (iV 0) .undef .undef ff) (ext m [l9 (r5 5 [] v u r)]) []=_:=g;rw [q8] at ha;have o:M'.get m.nx=some (l9 (r5 5 [] v u r)):=(q.old m.nx (by simp)).trans (by rw [r9 j];rfl);have J:M'.lim<=M'.nx:=by rw [q.lim,E.lim];exact aA c (aA E.nx q.nx)
  obtain⟨D,B,E2⟩:=F M' u t q.ok J ⟨rt,rsE (E.trans q) h4,nP (E.trans q) h5⟩ (by omega) (by omega);have y:=(E2.old m.nx (gq (by simp) q.nx)).trans o;have E3:=(E.trans q).trans E2;have x:D.lim<=D.nx:=by rw [E3.lim];exact aA c E3.nx
  obtain⟨Z,N,E4⟩:=F D r f E3.ok x ⟨rf,rsE E3 h6,nP E3 h7⟩ (by omega) (by omega);by_cases ft:aT t=true;refine⟨Z,?_,E3.trans E4⟩;rw [ft] at B;rw [enter (sf:=f57) rfl rfl];simp [f57,P6 j c,u7,a,p9,e0,b,e1,e2,e3,A,ha,o,y,B,N,ft];have w:aT t=false:=by simpa using ft
  refine⟨D,?_,E3⟩;rw [w] at B;rw [enter (sf:=f57) rfl rfl];simp [f57,P6 j c,u7,a,p9,e0,b,e1,e2,e3,A,ha,o,y,B,N,w];have A:C8 (λl m k=>jK (l7 KW fu (n+3)) fu none l m k) fu (fT (.agg (r5 5 [] v u r)) (.ptr m.nx 0) ff ff ff ff ff (iV 0) .undef .undef ff) (ext m [l9 (r5 5 [] v u r)]) []=_:=g;rw [q8] at ha;refine⟨M',?_,E.trans q⟩;rw [enter (sf:=f57) rfl rfl];simp [f57,P6 j c,u7,a,p9,e0,b,e1,e2,e3,A,ha])
 ·
  by_cases e0:e.length=0;refine⟨_,?_,E⟩;rw [Q9 (λq=>q.1 e0)];rw [enter (sf:=f57) rfl rfl];simp [f57,P6 j c,u7,a,p9,e0];have I:0<e.length:=by omega
  have G:0<(e.length:Int):=by omega
  have H:¬ e=[]:=λh=>by simp [h] at e0
  have b:=And.intro I (And.intro G H);by_cases e1:1<(e.length:Int);refine⟨_,?_,E⟩;rw [Q9 (λq=>by rcases q.2.1 with q | q<;>omega)]
  rw [enter (sf:=f57) rfl rfl];simp [f57,P6 j c,u7,a,p9,e0,b,e1];by_cases e2:f.length=0
  case neg=>
   have K:0<(f.length:Int):=by omega
   have L:¬ f=[]:=λh=>by simp [h] at e2
   have M:0<f.length:=by omega
   refine⟨_,?_,E⟩;rw [Q9 (λq=>by rcases q.2.2.2.1 with q | q<;>omega)]
   rw [enter (sf:=f57) rfl rfl];simp [f57,P6 j c,u7,a,p9,e0,b,e1,e2,M,K,L]
  by_cases e3:t.length=0
  case neg=>
   have P:0<(t.length:Int):=by omega
   have Q:¬ t=[]:=λh=>by simp [h] at e3
   have S:0<t.length:=by omega
   refine⟨_,?_,E⟩;rw [Q9 (λq=>by rcases q.2.2.1 with q | q | q<;>omega)]
   rw [enter (sf:=f57) rfl rfl];simp [f57,P6 j c,u7,a,p9,e0,b,e1,e2,e3,S,P,Q]
  obtain⟨X,rfl⟩:∃X,e=[X]:=ahE.1 (by omega);obtain⟨kx,nx,sx,ax⟩:=X;obtain⟨ac,o1,a1,a2,a3,a4,a5⟩:=(h1.slice.ext E).at (i:=0) (by rw [T];simp);obtain⟨vx,ah,rx,_,_⟩:=A9.get h2 0 (by simp) (by rw [T];simp);rw [rx] at a5;have O:=a5 0 (by omega);have Y:=a1;simp at Y;rw [Y1] at O;have O:ld1 ((ext m [l9 (r5 6 [] v u r)]).get ac) o1=some (iV kx):=O;by_cases e4:kx=3
  case neg=>refine⟨_,?_,E⟩;rw [Q9 (λq=>q.2.2.2.2.elim (λq=>by omega) (λq=>by simp [Yg] at q;exact e4 q))];rw [enter (sf:=f57) rfl rfl];simp [f57,P6 j c,u7,a,p9,e0,b,e1,e2,e3,e4,Y,O]
  subst e4;rw [ji (e:=[(Ex.mk 3 nx sx ax)]) ⟨e0,.inl (by omega),.inl e3,.inl e2,.inr rfl⟩ (by omega) (by omega) (by simp)];rcases wE (p:=m.nx) (R:=(r5 6 [] v u r)) (x2:=ff) (x3:=.bool false) (x4:=.bool false) (x5:=.bool false) (x6:=.bool false) (k0:=6) (s0:=[]) (W (n+3) (by omega)) E.ok (by simp) (by rw [E.lim];exact aA c E.nx) (by rw [r9 j];rfl) [(Ex.mk 3 nx sx ax)] U V (by omega) (by omega) [(Ex.mk 3 nx sx ax)].length 0 (by omega) .undef .undef (ext m [l9 (r5 6 [] v u r)]) fu (Ext.refl E.ok) (by omega) with⟨ha,c',e',M',g,q⟩ | ⟨ha,i',c',e',M',g,q⟩;have A:C8 (λl m k=>jK (l7 KW fu (n+3)) fu none l m k) fu (fT (.agg (r5 6 [] v u r)) (.ptr m.nx 0) ff ff ff ff ff (iV 0) .undef .undef ff) (ext m [l9 (r5 6 [] v u r)]) []=_:=g;rw [q8] at ha;have o:M'.get m.nx=some (l9 (r5 6 [] v u r)):=(q.old m.nx (by simp)).trans (by rw [r9 j];rfl);have J:M'.lim<=M'.nx:=by rw [q.lim,E.lim];exact aA c (aA E.nx q.nx)
  obtain⟨D,B,E2⟩:=F M' u t q.ok J ⟨rt,rsE (E.trans q) h4,nP (E.trans q) h5⟩ (by omega) (by omega);have y:=(E2.old m.nx (gq (by simp) q.nx)).trans o;have E3:=(E.trans q).trans E2;have x:D.lim<=D.nx:=by rw [E3.lim];exact aA c E3.nx
  obtain⟨Z,N,E4⟩:=F D r f E3.ok x ⟨rf,rsE E3 h6,nP E3 h7⟩ (by omega) (by omega);by_cases ft:aT t=true;refine⟨Z,?_,E3.trans E4⟩;rw [ft] at B;rw [enter (sf:=f57) rfl rfl];simp [f57,P6 j c,u7,a,p9,e2,e3,Y,O,A,ha,o,y,B,N,ft];have w:aT t=false:=by simpa using ft
  refine⟨D,?_,E3⟩;rw [w] at B;rw [enter (sf:=f57) rfl rfl];simp [f57,P6 j c,u7,a,p9,e2,e3,Y,O,A,ha,o,y,B,N,w];have A:C8 (λl m k=>jK (l7 KW fu (n+3)) fu none l m k) fu (fT (.agg (r5 6 [] v u r)) (.ptr m.nx 0) ff ff ff ff ff (iV 0) .undef .undef ff) (ext m [l9 (r5 6 [] v u r)]) []=_:=g;rw [q8] at ha;refine⟨M',?_,E.trans q⟩;rw [enter (sf:=f57) rfl rfl];simp [f57,P6 j c,u7,a,p9,e2,e3,Y,O,A,ha]
theorem afm (fu:Nat)(a:20000<=fu):∀d n:Nat,2*d+4<=n->C37 n fu d:=by
 intro d;induction d with
 | zero=>intro n b m g s j i h l c;obtain⟨o,p,e,t,f⟩:=s;rw [rJ] at c;omega
 | succ d ih=>intro n b;obtain⟨n,rfl⟩:∃k,n=k+4:=⟨n-4,by omega⟩;exact Yi a (λn b=>afk fu a d n b) (Yh a (ih (n+2) (by omega))) (by omega)
theorem afn (fu:Nat)(a:20000<=fu)(d n:Nat)(h:2*d+5<=n):C17 n fu d:=by obtain⟨n,rfl⟩:∃k,n=k+1:=⟨n-1,by omega⟩;exact Yh a (afm fu a d n (by omega))
def C70 (n fu d:Nat):Prop:=∀(m:Mem) (row:List d9) (e:V7),m.Ok->m.lim<=m.nx->ig m (λ_=>True) e row->stP e<=10000->rJ e<=d->
 ∃m',l7 KW fu n (.func 82) [.agg row] m=some [⟨.bool (tQ e),m'⟩]∧Ext m m'
def CH (g:FuncId)(n fu d:Nat):Prop:=∀(m:Mem) (row:List d9) (e:V7),m.Ok->m.lim<=m.nx->ig m (λ_=>True) e row->stP e<=10000->rJ e<=d->
 ∃m',l7 KW fu n (.func g) [.agg row] m=some [⟨.bool (!tQ e),m'⟩]∧Ext m m'
theorem jk {n fu d:Nat}(b:C70 n fu d):CH 135 (n+1) fu d:=by
 intro m a e k j h o l;have p:=h.row;obtain⟨c,f⟩:=p;have E:=G6 k [l9 a];obtain⟨q,g,E1⟩:=b (ext m [l9 a]) a e E.ok (by rw [E.lim];exact aA j E.nx) (XK E h) o l;refine⟨q,?_,E.trans E1⟩;have i:Gw (some (l9 a)) 0 5=some (.agg a):=by rw [eU (by omega) (by omega),q8,W9 (by omega)]
 rw [enter (sf:=f135) rfl rfl];simp [f135,P6 k j,u7,c,f,i,g]
theorem afo {n fu d:Nat}(b:C70 n fu d):CH 81 (n+1) fu d:=by
 intro m a e k j h o l;have p:=h.row;obtain⟨c,f⟩:=p;have E:=G6 k [l9 a];obtain⟨q,g,E1⟩:=b (ext m [l9 a]) a e E.ok (by rw [E.lim];exact aA j E.nx) (XK E h) o l;refine⟨q,?_,E.trans E1⟩;have i:Gw (some (l9 a)) 0 5=some (.agg a):=by rw [eU (by omega) (by omega),q8,W9 (by omega)]
 rw [enter (sf:=f81) rfl rfl];simp [f81,P6 k j,u7,c,f,i,g]
theorem Yj {cl:FuncId}{n fu d:Nat}(G:CH cl (n+1) fu d){m:Mem}(U:m.Ok)(I:m.lim<=m.nx){v:d9}{rows:List (List d9)}(a:List V7)(B:eD m (λ_=>True) 5 v rows)(z:H6 m (λ_=>True) a rows)(L:U2 a<=10000)(T:au a<=d):
  ∀(j i:Nat),i+j=a.length->∀(c k b:d9) (M:Mem) (N:Nat),Ext m M->j+1<=N->
  (aT (a.drop i)=true∧∃c' k' b' M',C8 (λenv m k=>qI (l7 KW fu (n+1)) fu none env m k) N (qL v (iV (i:Int)) (iV (a.length:Int)) c (.func (.func cl) [] []) k b (iV 0)) M []=some [⟨.exit 0,(qL v (iV (a.length:Int)) (iV (a.length:Int)) c' (.func (.func cl) [] []) k' b' (iV 0)),M',[],none⟩]∧Ext m M')∨
  (aT (a.drop i)=false∧∃(i' c' k' b':d9) (r':Nat) (M':Mem),C8 (λenv m k=>qI (l7 KW fu (n+1)) fu none env m k) N (qL v (iV (i:Int)) (iV (a.length:Int)) c (.func (.func cl) [] []) k b (iV 0)) M []=some [⟨.ret,(qL v i' (iV (a.length:Int)) c' (.func (.func cl) [] []) k' b' (iV (r':Int))),M',[],none⟩]∧Ext m M'):=by
 have u:=H6.len z;have J:=U0 a;intro j;induction j with
 | zero=>
  intro i H c k b M N E D;obtain⟨N,rfl⟩:∃k,N=k+1:=⟨N-1,by omega⟩;obtain rfl:i=a.length:=by omega
  refine .inl ⟨by simp [aT],.bool false,k,b,M,?_,E⟩;rw [o7];simp [qI]
 | succ j ih=>
  intro i H c k b M N E D;obtain⟨N,rfl⟩:∃k,N=k+1:=⟨N-1,by omega⟩;have e:i<a.length:=by omega
  have f:i<rows.length:=by omega
  have g:(i:Int)<(a.length:Int):=by omega
  have C:=E.ok;have s:M.lim<=M.nx:=by rw [E.lim];exact aA I E.nx
  have t:a.drop i=a[i]::a.drop (i+1):=Xd e;rw [t,aT];obtain⟨P,V,y,Q,R,A,S⟩:=(B.slice.ext E).at f;have h:=H6.get z i e f;have O:=h.row;have l:=A 0 5 (by omega) (by omega);rw [q8,W9 (by omega),Y1] at l;have K:=jf a i e;have F:=mE a i e;have o:ig M (λ_=>True) a[i] rows[i]:=XK E h;generalize hX:a[i]=X at *;generalize hR:rows[i]=R1 at *;obtain⟨x,r,E2⟩:=G M R1 X C s o (by omega) (by omega);by_cases hf:tQ X=true;rw [hf] at r;have w:=ih (i+1) (by omega) tt (iV (i:Int)) ff x N (E.trans E2) (by omega);have q:C8 (λenv m k=>qI (l7 KW fu (n+1)) fu none env m k) (N+1) (qL v (iV (i:Int)) (iV (a.length:Int)) c (.func (.func cl) [] []) k b (iV 0)) M []=C8 (λenv m k=>qI (l7 KW fu (n+1)) fu none env m k) N (qL v (.int .i64 ((i+1:Nat):Int)) (iV (a.length:Int)) tt (.func (.func cl) [] []) (iV (i:Int)) ff (iV 0)) x []:=by rw [o7];simp [qI,e,g,y,l,r,L6 (i:=i) (by omega)]
  rw [q,hf,adL];exact w;have p:tQ X=false:=by simpa using hf
  rw [p] at r;refine .inr ⟨by rw [p];rfl,iV (i:Int),.bool true,iV (i:Int),.bool true,i,x,?_,E.trans E2⟩;rw [o7];simp [qI,e,g,y,l,r]
theorem rM {cl:FuncId}{n fu d:Nat}(u:20000<=fu)(w:CH cl (n+1) fu d){m:Mem}(p:m.Ok)(x:m.lim<=m.nx){v:d9}(a:List V7)(h:O4 m (λ_=>True) a v)(l:U2 a<=10000)(t:au a<=d):
  ∃m',l7 KW fu (n+3) (.func 80) [v,(.func (.func cl) [] [])] m=some [⟨.bool (!aT a),m'⟩]∧Ext m m':=by
 obtain⟨s,j,o⟩:=h;have f:=H6.len o;have c:=j.slice.len;rw [f] at c;have y:=U0 a;have r:=HZ j.slice;rcases Yj (n:=n) (fu:=fu) w p x a j o l t a.length 0 (by omega) .undef .undef .undef m fu (Ext.refl p) (by omega) with⟨ha,c',k',b',M',g,q⟩ | ⟨ha,i',c',k',b',r',M',g,q⟩;have i:C8 (λe m k=>qI (l7 KW fu (n+1)) fu none e m k) fu (qL v (iV 0) (iV (a.length:Int)) .undef (.func (.func cl) [] []) .undef .undef (iV 0)) m []=_:=g;rw [q8] at ha;have b:l7 KW fu (n+2) (.func 134) [v,(.func (.func cl) [] [])] m=some [⟨iV (-1),M'⟩]:=by rw [enter (sf:=f134) rfl rfl];simp [f134,c,i,r]
 refine⟨M',?_,q⟩;rw [enter (sf:=f80) rfl rfl];simp [f80,b,ha];have i:C8 (λe m k=>qI (l7 KW fu (n+1)) fu none e m k) fu (qL v (iV 0) (iV (a.length:Int)) .undef (.func (.func cl) [] []) .undef .undef (iV 0)) m []=_:=g;rw [q8] at ha;have b:l7 KW fu (n+2) (.func 134) [v,(.func (.func cl) [] [])] m=some [⟨iV (r':Int),M'⟩]:=by rw [enter (sf:=f134) rfl rfl];simp [f134,c,i,r]
 have z:(0:Int)<=(r':Int):=by omega
 refine⟨M',?_,q⟩;rw [enter (sf:=f80) rfl rfl];simp [f80,b,ha,z]
theorem Yk {n fu d:Nat}(r:20000<=fu)(I:∀n,4*d+2<=n->Ye n fu d)(A:C70 (n+2) fu d)(hn:4*d<=n):C70 (n+6) fu (d+1):=by
 intro m ak s l j h hp hd;obtain⟨k0,M,e,t,f⟩:=s;obtain⟨v,U,T,re,rt,rf,rfl,Y,h2,h4,h5,h6,h7⟩:=h;have ov:=Y.slice.u7;have cv:=Y.slice.cells;have af:=h4.slice.u7;have a9:=h4.slice.cells;have ae:=h6.slice.u7;have a8:=h6.slice.cells;have o:=HZ Y.slice;have S:=A9.len h2;have a0:=Y.slice.len;rw [S] at a0;have a7:=h4.slice.len;rw [H6.len h5] at a7;have a6:=h6.slice.len;rw [H6.len h7] at a6;have c:=And.intro ov (And.intro af (And.intro ae (And.intro cv (And.intro a9 (And.intro a8 (And.intro a0 (And.intro a7 a6)))))));rw [stP] at hp;rw [rJ] at hd;have E:=G6 l [l9 (r5 k0 M v U T)];have ai:=K8 e;have aj:=U0 t;have ah:=U0 f;by_cases k1:k0<1;refine⟨_,?_,E⟩;have ac:¬ 1<=k0:=by omega
 rw [show tQ (.mk k0 M e t f)=false by simp [tQ,ac]];rw [enter (sf:=f82) rfl rfl];simp [f82,P6 l j,u7,c,p9,o,k1];by_cases k2:6<k0;refine⟨_,?_,E⟩;have ad:¬ k0<=6:=by omega
 rw [show tQ (.mk k0 M e t f)=false by simp [tQ,ad]];rw [enter (sf:=f82) rfl rfl];simp [f82,P6 l j,u7,c,p9,o,k1,k2];by_cases hN:k0=1∨k0=2
 ·rcases hN with rfl | rfl
  ·
   by_cases e0:e.length=0;refine⟨_,?_,E⟩;rw [Q9 (λq=>q.1 e0)];rw [enter (sf:=f82) rfl rfl];simp [f82,P6 l j,u7,c,p9,o,e0];have B:0<e.length:=by omega
   have z:0<(e.length:Int):=by omega
   have x:¬ e=[]:=λh=>by simp [h] at e0
   have g:=And.intro B (And.intro z x);by_cases e1:1<(e.length:Int);refine⟨_,?_,E⟩;rw [Q9 (λq=>by rcases q.2.1 with q | q<;>omega)]
   rw [enter (sf:=f82) rfl rfl];simp [f82,P6 l j,u7,c,p9,o,e0,g,e1];obtain⟨m1,p,E1⟩:=Ls (n:=n) r E.ok (by rw [E.lim];exact aA j E.nx) M;have R:m1.get m.nx=some (l9 (r5 1 M v U T)):=(E1.old _ (by simp)).trans (by rw [r9 l];rfl);by_cases hb:Ai M=true
   case neg=>have Z:Ai M=false:=(by simpa using hb);refine⟨m1,?_,E.trans E1⟩;rw [show tQ (.mk 1 M e t f)=false by simp [tQ,Z]];rw [enter (sf:=f82) rfl rfl];simp [f82,P6 l j,u7,c,p9,o,e0,g,e1,p,Z,R]
   by_cases e3:t.length=0
   case neg=>
    have O:0<(t.length:Int):=(by omega);have P:¬ t=[]:=λh=>(by simp [h] at e3);have Q:0<t.length:=(by omega);refine⟨_,?_,E.trans E1⟩;rw [Q9 (λq=>by rcases q.2.2.1 with q | q | q<;>omega)]
    rw [enter (sf:=f82) rfl rfl];simp [f82,P6 l j,u7,c,p9,o,e0,g,e1,p,hb,R,e3,Q,O,P]
   by_cases e2:f.length=0
   case neg=>
    have J:0<(f.length:Int):=(by omega);have K:¬ f=[]:=λh=>(by simp [h] at e2);have L:0<f.length:=(by omega);refine⟨_,?_,E.trans E1⟩;rw [Q9 (λq=>by rcases q.2.2.2.1 with q | q<;>omega)]
    rw [enter (sf:=f82) rfl rfl];simp [f82,P6 l j,u7,c,p9,o,e0,g,e1,p,hb,R,e3,e2,L,J,K]
   rw [ji (e:=e) ⟨e0,.inl (by omega),.inl e3,.inl e2,.inl (by omega)⟩ (by omega) (by omega) (by show _=_;simp [hb])];have E0:Ext m m1:=E.trans E1;obtain⟨M',a,q⟩:=Gb (cl:=136) (n:=n+2) (fu:=fu) r (wD (I (n+2) (by omega))) E0.ok (by rw [E0.lim];exact aA j E0.nx) e ⟨re,rsE E0 Y,yH E0 h2⟩ (by omega) (by omega);have k:M'.get m.nx=some (l9 (r5 1 M v U T)):=(q.old m.nx (gq (by simp) E1.nx)).trans R;have E5:=E0.trans q;by_cases fe:Y0 e=true
   case neg=>have C:Y0 e=false:=(by simpa using fe);refine⟨M',?_,E5⟩;rw [C] at a ⊢;rw [enter (sf:=f82) rfl rfl];simp [f82,P6 l j,u7,c,p9,o,e0,g,e1,p,hb,R,e3,e2,k,a]
   rw [fe] at a ⊢;have F:M'.lim<=M'.nx:=by rw [E5.lim];exact aA j E5.nx
   obtain⟨H,y,E2⟩:=rM (cl:=135) (n:=n+2) (fu:=fu) r (jk A) E5.ok F t ⟨rt,rsE E5 h4,nP E5 h5⟩ (by omega) (by omega);have G:m.nx<M'.nx:=gq (by simp) (aA E1.nx q.nx);have w:=(E2.old m.nx G).trans k;have E3:=E5.trans E2;by_cases ft:aT t=true
   case neg=>have D:aT t=false:=(by simpa using ft);refine⟨H,?_,E3⟩;rw [D] at y ⊢;rw [enter (sf:=f82) rfl rfl];simp [f82,P6 l j,u7,c,p9,o,e0,g,e1,p,hb,R,e3,e2,k,w,a,y]
   rw [ft] at y ⊢;have u:H.lim<=H.nx:=by rw [E3.lim];exact aA j E3.nx
   obtain⟨m3,W,E4⟩:=rM (cl:=135) (n:=n+2) (fu:=fu) r (jk A) E3.ok u f ⟨rf,rsE E3 h6,nP E3 h7⟩ (by omega) (by omega);refine⟨m3,?_,E3.trans E4⟩;rw [enter (sf:=f82) rfl rfl];simp [f82,P6 l j,u7,c,p9,o,e0,g,e1,p,hb,R,e3,e2,k,w,a,y,W]
  ·
   by_cases e0:e.length=0;refine⟨_,?_,E⟩;rw [Q9 (λq=>q.1 e0)];rw [enter (sf:=f82) rfl rfl];simp [f82,P6 l j,u7,c,p9,o,e0];have B:0<e.length:=by omega
   have z:0<(e.length:Int):=by omega
   have x:¬ e=[]:=λh=>by simp [h] at e0
   have g:=And.intro B (And.intro z x);by_cases e1:1<(e.length:Int);refine⟨_,?_,E⟩;rw [Q9 (λq=>by rcases q.2.1 with q | q<;>omega)]
   rw [enter (sf:=f82) rfl rfl];simp [f82,P6 l j,u7,c,p9,o,e0,g,e1];obtain⟨m1,p,E1⟩:=Ls (n:=n) r E.ok (by rw [E.lim];exact aA j E.nx) M;have R:m1.get m.nx=some (l9 (r5 2 M v U T)):=(E1.old _ (by simp)).trans (by rw [r9 l];rfl);by_cases hb:Ai M=true
   case neg=>have Z:Ai M=false:=(by simpa using hb);refine⟨m1,?_,E.trans E1⟩;rw [show tQ (.mk 2 M e t f)=false by simp [tQ,Z]];rw [enter (sf:=f82) rfl rfl];simp [f82,P6 l j,u7,c,p9,o,e0,g,e1,p,Z,R]
   by_cases e3:t.length=0
   case neg=>
    have O:0<(t.length:Int):=(by omega);have P:¬ t=[]:=λh=>(by simp [h] at e3);have Q:0<t.length:=(by omega);refine⟨_,?_,E.trans E1⟩;rw [Q9 (λq=>by rcases q.2.2.1 with q | q | q<;>omega)]
    rw [enter (sf:=f82) rfl rfl];simp [f82,P6 l j,u7,c,p9,o,e0,g,e1,p,hb,R,e3,Q,O,P]
   by_cases e2:f.length=0
   case neg=>
    have J:0<(f.length:Int):=(by omega);have K:¬ f=[]:=λh=>(by simp [h] at e2);have L:0<f.length:=(by omega);refine⟨_,?_,E.trans E1⟩;rw [Q9 (λq=>by rcases q.2.2.2.1 with q | q<;>omega)]
    rw [enter (sf:=f82) rfl rfl];simp [f82,P6 l j,u7,c,p9,o,e0,g,e1,p,hb,R,e3,e2,L,J,K]
   rw [ji (e:=e) ⟨e0,.inl (by omega),.inl e3,.inl e2,.inl (by omega)⟩ (by omega) (by omega) (by show _=_;simp [hb])];have E0:Ext m m1:=E.trans E1;obtain⟨M',a,q⟩:=Gb (cl:=136) (n:=n+2) (fu:=fu) r (wD (I (n+2) (by omega))) E0.ok (by rw [E0.lim];exact aA j E0.nx) e ⟨re,rsE E0 Y,yH E0 h2⟩ (by omega) (by omega);have k:M'.get m.nx=some (l9 (r5 2 M v U T)):=(q.old m.nx (gq (by simp) E1.nx)).trans R;have E5:=E0.trans q;by_cases fe:Y0 e=true
   case neg=>have C:Y0 e=false:=(by simpa using fe);refine⟨M',?_,E5⟩;rw [C] at a ⊢;rw [enter (sf:=f82) rfl rfl];simp [f82,P6 l j,u7,c,p9,o,e0,g,e1,p,hb,R,e3,e2,k,a]
   rw [fe] at a ⊢;have F:M'.lim<=M'.nx:=by rw [E5.lim];exact aA j E5.nx
   obtain⟨H,y,E2⟩:=rM (cl:=135) (n:=n+2) (fu:=fu) r (jk A) E5.ok F t ⟨rt,rsE E5 h4,nP E5 h5⟩ (by omega) (by omega);have G:m.nx<M'.nx:=gq (by simp) (aA E1.nx q.nx);have w:=(E2.old m.nx G).trans k;have E3:=E5.trans E2;by_cases ft:aT t=true
   case neg=>have D:aT t=false:=(by simpa using ft);refine⟨H,?_,E3⟩;rw [D] at y ⊢;rw [enter (sf:=f82) rfl rfl];simp [f82,P6 l j,u7,c,p9,o,e0,g,e1,p,hb,R,e3,e2,k,w,a,y]
   rw [ft] at y ⊢;have u:H.lim<=H.nx:=by rw [E3.lim];exact aA j E3.nx
   obtain⟨m3,W,E4⟩:=rM (cl:=135) (n:=n+2) (fu:=fu) r (jk A) E3.ok u f ⟨rf,rsE E3 h6,nP E3 h7⟩ (by omega) (by omega);refine⟨m3,?_,E3.trans E4⟩;rw [enter (sf:=f82) rfl rfl];simp [f82,P6 l j,u7,c,p9,o,e0,g,e1,p,hb,R,e3,e2,k,w,a,y,W]
 have n1:¬ k0=1:=by omega
 have n2:¬ k0=2:=by omega
 by_cases hs:M=[]
 case neg=>
  have aa:tQ (.mk k0 M e t f)=false:=by simp [tQ,hs,n1,n2]
  refine⟨_,?_,E⟩;rw [aa];by_cases e0:e.length=0;rw [enter (sf:=f82) rfl rfl];simp [f82,P6 l j,u7,c,p9,o,k1,k2,n1,n2,hs,e0];have z:¬ (e.length:Int)=0:=by omega
  have x:¬ e=[]:=λh=>by simp [h] at e0
  by_cases e1:1<(e.length:Int);by_cases k5:k0=5;subst k5;rw [enter (sf:=f82) rfl rfl];simp [f82,P6 l j,u7,c,p9,o,hs,e0,x,e1];rw [enter (sf:=f82) rfl rfl];simp [f82,P6 l j,u7,c,p9,o,k1,k2,n1,n2,hs,e0,x,e1,k5];rw [enter (sf:=f82) rfl rfl];simp [f82,P6 l j,u7,c,p9,o,k1,k2,n1,n2,hs,e0,x,e1]
 subst hs;have hk:k0=3∨k0=4∨k0=5∨k0=6:=by omega
 rcases hk with rfl | rfl | rfl | rfl
 ·
  by_cases e0:e.length=0;refine⟨_,?_,E⟩;rw [Q9 (λq=>q.1 e0)];rw [enter (sf:=f82) rfl rfl];simp [f82,P6 l j,u7,c,p9,o,e0];have B:0<e.length:=by omega
  have z:0<(e.length:Int):=by omega
  have x:¬ e=[]:=λh=>by simp [h] at e0
  have g:=And.intro B (And.intro z x);by_cases e1:1<(e.length:Int);refine⟨_,?_,E⟩;rw [Q9 (λq=>by rcases q.2.1 with q | q<;>omega)]
  rw [enter (sf:=f82) rfl rfl];simp [f82,P6 l j,u7,c,p9,o,e0,g,e1];obtain⟨bt,z1,z2⟩:∃b:Bool,decide (0<(t.length:Int))=b∧decide (0<t.length)=b:=⟨_,rfl,by simp⟩;cases bt;all_goals (
  obtain⟨bf,z3,z4⟩:∃b:Bool,decide (0<(f.length:Int))=b∧decide (0<f.length)=b:=⟨_,rfl,by simp⟩;cases bf;all_goals (
  rw [ji (e:=e) ⟨e0,.inl (by omega),.inr (.inl rfl),.inr rfl,.inl (by omega)⟩ (by omega) (by omega) (by simp)];have E0:Ext m (ext m [l9 (r5 3 [] v U T)]):=E;obtain⟨M',a,q⟩:=Gb (cl:=136) (n:=n+2) (fu:=fu) r (wD (I (n+2) (by omega))) E0.ok (by rw [E0.lim];exact aA j E0.nx) e ⟨re,rsE E0 Y,yH E0 h2⟩ (by omega) (by omega);have k:M'.get m.nx=some (l9 (r5 3 [] v U T)):=(q.old m.nx (by simp)).trans (by rw [r9 l];rfl);have E5:=E0.trans q;by_cases fe:Y0 e=true
  case neg=>
   have C:Y0 e=false:=by simpa using fe
   refine⟨M',?_,E5⟩;rw [C] at a ⊢;rw [enter (sf:=f82) rfl rfl];simp [f82,P6 l j,u7,c,p9,o,e0,g,e1,z1,z2,z3,z4,k,a]
  rw [fe] at a ⊢;have F:M'.lim<=M'.nx:=by rw [E5.lim];exact aA j E5.nx
  obtain⟨H,y,E2⟩:=rM (cl:=135) (n:=n+2) (fu:=fu) r (jk A) E5.ok F t ⟨rt,rsE E5 h4,nP E5 h5⟩ (by omega) (by omega);have G:m.nx<M'.nx:=gq (by simp) (aA (q9 _) q.nx);have w:=(E2.old m.nx G).trans k;have E3:=E5.trans E2;by_cases ft:aT t=true
  case neg=>
   have D:aT t=false:=by simpa using ft
   refine⟨H,?_,E3⟩;rw [D] at y ⊢;rw [enter (sf:=f82) rfl rfl];simp [f82,P6 l j,u7,c,p9,o,e0,g,e1,z1,z2,z3,z4,k,w,a,y]
  rw [ft] at y ⊢;have u:H.lim<=H.nx:=by rw [E3.lim];exact aA j E3.nx
  obtain⟨m3,W,E4⟩:=rM (cl:=135) (n:=n+2) (fu:=fu) r (jk A) E3.ok u f ⟨rf,rsE E3 h6,nP E3 h7⟩ (by omega) (by omega);refine⟨m3,?_,E3.trans E4⟩;rw [enter (sf:=f82) rfl rfl];simp [f82,P6 l j,u7,c,p9,o,e0,g,e1,z1,z2,z3,z4,k,w,a,y,W]))
 ·
  by_cases e0:e.length=0;refine⟨_,?_,E⟩;rw [Q9 (λq=>q.1 e0)];rw [enter (sf:=f82) rfl rfl];simp [f82,P6 l j,u7,c,p9,o,e0];have B:0<e.length:=by omega
  have z:0<(e.length:Int):=by omega
  have x:¬ e=[]:=λh=>by simp [h] at e0
  have g:=And.intro B (And.intro z x);by_cases e1:1<(e.length:Int);refine⟨_,?_,E⟩;rw [Q9 (λq=>by rcases q.2.1 with q | q<;>omega)]
  rw [enter (sf:=f82) rfl rfl];simp [f82,P6 l j,u7,c,p9,o,e0,g,e1];obtain⟨bt,z1,z2⟩:∃b:Bool,decide (0<(t.length:Int))=b∧decide (0<t.length)=b:=⟨_,rfl,by simp⟩;cases bt;all_goals (
  by_cases e2:f.length=0
  case neg=>
   have J:0<(f.length:Int):=by omega
   have K:¬ f=[]:=λh=>by simp [h] at e2
   have L:0<f.length:=by omega
   refine⟨_,?_,E⟩;rw [Q9 (λq=>by rcases q.2.2.2.1 with q | q<;>omega)]
   rw [enter (sf:=f82) rfl rfl];simp [f82,P6 l j,u7,c,p9,o,e0,g,e1,z1,z2,e2,L,J,K]
  rw [ji (e:=e) ⟨e0,.inl (by omega),.inr (.inr rfl),.inl e2,.inl (by omega)⟩ (by omega) (by omega) (by simp)];have E0:Ext m (ext m [l9 (r5 4 [] v U T)]):=E;obtain⟨M',a,q⟩:=Gb (cl:=136) (n:=n+2) (fu:=fu) r (wD (I (n+2) (by omega))) E0.ok (by rw [E0.lim];exact aA j E0.nx) e ⟨re,rsE E0 Y,yH E0 h2⟩ (by omega) (by omega);have k:M'.get m.nx=some (l9 (r5 4 [] v U T)):=(q.old m.nx (by simp)).trans (by rw [r9 l];rfl);have E5:=E0.trans q;by_cases fe:Y0 e=true
  case neg=>
   have C:Y0 e=false:=by simpa using fe
   refine⟨M',?_,E5⟩;rw [C] at a ⊢;rw [enter (sf:=f82) rfl rfl];simp [f82,P6 l j,u7,c,p9,o,e0,g,e1,z1,z2,e2,k,a]
  rw [fe] at a ⊢;have F:M'.lim<=M'.nx:=by rw [E5.lim];exact aA j E5.nx
  obtain⟨H,y,E2⟩:=rM (cl:=135) (n:=n+2) (fu:=fu) r (jk A) E5.ok F t ⟨rt,rsE E5 h4,nP E5 h5⟩ (by omega) (by omega);have G:m.nx<M'.nx:=gq (by simp) (aA (q9 _) q.nx);have w:=(E2.old m.nx G).trans k;have E3:=E5.trans E2;by_cases ft:aT t=true
  case neg=>
   have D:aT t=false:=by simpa using ft
   refine⟨H,?_,E3⟩;rw [D] at y ⊢;rw [enter (sf:=f82) rfl rfl];simp [f82,P6 l j,u7,c,p9,o,e0,g,e1,z1,z2,e2,k,w,a,y]
  rw [ft] at y ⊢;have u:H.lim<=H.nx:=by rw [E3.lim];exact aA j E3.nx
  obtain⟨m3,W,E4⟩:=rM (cl:=135) (n:=n+2) (fu:=fu) r (jk A) E3.ok u f ⟨rf,rsE E3 h6,nP E3 h7⟩ (by omega) (by omega);refine⟨m3,?_,E3.trans E4⟩;rw [enter (sf:=f82) rfl rfl];simp [f82,P6 l j,u7,c,p9,o,e0,g,e1,z1,z2,e2,k,w,a,y,W])
 ·
  by_cases e0:e.length=0;refine⟨_,?_,E⟩;rw [Q9 (λq=>q.1 e0)];rw [enter (sf:=f82) rfl rfl];simp [f82,P6 l j,u7,c,p9,o,e0];have B:0<e.length:=by omega
  have z:0<(e.length:Int):=by omega
  have x:¬ e=[]:=λh=>by simp [h] at e0
  have g:=And.intro B (And.intro z x);by_cases e1:1<(e.length:Int);all_goals (
  by_cases e3:t.length=0
  case neg=>
   have O:0<(t.length:Int):=by omega
   have P:¬ t=[]:=λh=>by simp [h] at e3
   have Q:0<t.length:=by omega
   refine⟨_,?_,E⟩;rw [Q9 (λq=>by rcases q.2.2.1 with q | q | q<;>omega)]
   rw [enter (sf:=f82) rfl rfl];simp [f82,P6 l j,u7,c,p9,o,e0,g,e1,e3,Q,O,P]
  by_cases e2:f.length=0
  case neg=>
   have J:0<(f.length:Int):=by omega
   have K:¬ f=[]:=λh=>by simp [h] at e2
   have L:0<f.length:=by omega
   refine⟨_,?_,E⟩;rw [Q9 (λq=>by rcases q.2.2.2.1 with q | q<;>omega)]
   rw [enter (sf:=f82) rfl rfl];simp [f82,P6 l j,u7,c,p9,o,e0,g,e1,e3,e2,L,J,K]
  rw [ji (e:=e) ⟨e0,.inr rfl,.inl e3,.inl e2,.inl (by omega)⟩ (by omega) (by omega) (by simp)];have E0:Ext m (ext m [l9 (r5 5 [] v U T)]):=E;obtain⟨M',a,q⟩:=Gb (cl:=136) (n:=n+2) (fu:=fu) r (wD (I (n+2) (by omega))) E0.ok (by rw [E0.lim];exact aA j E0.nx) e ⟨re,rsE E0 Y,yH E0 h2⟩ (by omega) (by omega);have k:M'.get m.nx=some (l9 (r5 5 [] v U T)):=(q.old m.nx (by simp)).trans (by rw [r9 l];rfl);have E5:=E0.trans q;by_cases fe:Y0 e=true
  case neg=>
   have C:Y0 e=false:=by simpa using fe
   refine⟨M',?_,E5⟩;rw [C] at a ⊢;rw [enter (sf:=f82) rfl rfl];simp [f82,P6 l j,u7,c,p9,o,e0,g,e1,e3,e2,k,a]
  rw [fe] at a ⊢;have F:M'.lim<=M'.nx:=by rw [E5.lim];exact aA j E5.nx
  obtain⟨H,y,E2⟩:=rM (cl:=135) (n:=n+2) (fu:=fu) r (jk A) E5.ok F t ⟨rt,rsE E5 h4,nP E5 h5⟩ (by omega) (by omega);have G:m.nx<M'.nx:=gq (by simp) (aA (q9 _) q.nx);have w:=(E2.old m.nx G).trans k;have E3:=E5.trans E2;by_cases ft:aT t=true
  case neg=>
   have D:aT t=false:=by simpa using ft
   refine⟨H,?_,E3⟩;rw [D] at y ⊢;rw [enter (sf:=f82) rfl rfl];simp [f82,P6 l j,u7,c,p9,o,e0,g,e1,e3,e2,k,w,a,y]
  rw [ft] at y ⊢;have u:H.lim<=H.nx:=by rw [E3.lim];exact aA j E3.nx
  obtain⟨m3,W,E4⟩:=rM (cl:=135) (n:=n+2) (fu:=fu) r (jk A) E3.ok u f ⟨rf,rsE E3 h6,nP E3 h7⟩ (by omega) (by omega);refine⟨m3,?_,E3.trans E4⟩;rw [enter (sf:=f82) rfl rfl];simp [f82,P6 l j,u7,c,p9,o,e0,g,e1,e3,e2,k,w,a,y,W])
 ·
  by_cases e0:e.length=0;refine⟨_,?_,E⟩;rw [Q9 (λq=>q.1 e0)];rw [enter (sf:=f82) rfl rfl];simp [f82,P6 l j,u7,c,p9,o,e0];have B:0<e.length:=by omega
  have z:0<(e.length:Int):=by omega
  have x:¬ e=[]:=λh=>by simp [h] at e0
  have g:=And.intro B (And.intro z x);by_cases e1:1<(e.length:Int);refine⟨_,?_,E⟩;rw [Q9 (λq=>by rcases q.2.1 with q | q<;>omega)]
  rw [enter (sf:=f82) rfl rfl];simp [f82,P6 l j,u7,c,p9,o,e0,g,e1];by_cases e3:t.length=0
  case neg=>
   have O:0<(t.length:Int):=by omega
   have P:¬ t=[]:=λh=>by simp [h] at e3
   have Q:0<t.length:=by omega
   refine⟨_,?_,E⟩;rw [Q9 (λq=>by rcases q.2.2.1 with q | q | q<;>omega)]
   rw [enter (sf:=f82) rfl rfl];simp [f82,P6 l j,u7,c,p9,o,e0,g,e1,e3,Q,O,P]
  by_cases e2:f.length=0
  case neg=>
   have J:0<(f.length:Int):=by omega
   have K:¬ f=[]:=λh=>by simp [h] at e2
   have L:0<f.length:=by omega
   refine⟨_,?_,E⟩;rw [Q9 (λq=>by rcases q.2.2.2.1 with q | q<;>omega)]
   rw [enter (sf:=f82) rfl rfl];simp [f82,P6 l j,u7,c,p9,o,e0,g,e1,e3,e2,L,J,K]
  obtain⟨X,rfl⟩:∃X,e=[X]:=ahE.1 (by omega);obtain⟨kx,nx,sx,ax⟩:=X;obtain⟨ab,o1,a1,a2,a3,a4,a5⟩:=(Y.slice.ext E).at (i:=0) (by rw [S];simp);obtain⟨vx,ag,rx,_,_⟩:=A9.get h2 0 (by simp) (by rw [S];simp);rw [rx] at a5;have N:=a5 0 (by omega);have V:=a1;simp at V;rw [Y1] at N;have N:ld1 ((ext m [l9 (r5 6 [] v U T)]).get ab) o1=some (iV kx):=N;by_cases e4:kx=3
  case neg=>refine⟨_,?_,E⟩;rw [Q9 (λq=>q.2.2.2.2.elim (λq=>by omega) (λq=>by simp [Yg] at q;exact e4 q))];rw [enter (sf:=f82) rfl rfl];simp [f82,P6 l j,u7,c,p9,o,e0,g,e1,e3,e2,e4,V,N]
  subst e4;rw [ji (e:=[(Ex.mk 3 nx sx ax)]) ⟨e0,.inl (by omega),.inl e3,.inl e2,.inr rfl⟩ (by omega) (by omega) (by simp)];have E0:Ext m (ext m [l9 (r5 6 [] v U T)]):=E;obtain⟨M',a,q⟩:=Gb (cl:=136) (n:=n+2) (fu:=fu) r (wD (I (n+2) (by omega))) E0.ok (by rw [E0.lim];exact aA j E0.nx) [(Ex.mk 3 nx sx ax)] ⟨re,rsE E0 Y,yH E0 h2⟩ (by omega) (by omega);have k:M'.get m.nx=some (l9 (r5 6 [] v U T)):=(q.old m.nx (by simp)).trans (by rw [r9 l];rfl);have E5:=E0.trans q;by_cases fe:Y0 [(Ex.mk 3 nx sx ax)]=true
  case neg=>
   have C:Y0 [(Ex.mk 3 nx sx ax)]=false:=by simpa using fe
   refine⟨M',?_,E5⟩;rw [C] at a ⊢;rw [enter (sf:=f82) rfl rfl];simp [f82,P6 l j,u7,c,p9,o,e3,e2,V,N,k,a]
  rw [fe] at a ⊢;have F:M'.lim<=M'.nx:=by rw [E5.lim];exact aA j E5.nx
  obtain⟨H,y,E2⟩:=rM (cl:=135) (n:=n+2) (fu:=fu) r (jk A) E5.ok F t ⟨rt,rsE E5 h4,nP E5 h5⟩ (by omega) (by omega);have G:m.nx<M'.nx:=gq (by simp) (aA (q9 _) q.nx);have w:=(E2.old m.nx G).trans k;have E3:=E5.trans E2;by_cases ft:aT t=true
  case neg=>
   have D:aT t=false:=by simpa using ft
   refine⟨H,?_,E3⟩;rw [D] at y ⊢;rw [enter (sf:=f82) rfl rfl];simp [f82,P6 l j,u7,c,p9,o,e3,e2,V,N,k,w,a,y]
  rw [ft] at y ⊢;have u:H.lim<=H.nx:=by rw [E3.lim];exact aA j E3.nx
  obtain⟨m3,W,E4⟩:=rM (cl:=135) (n:=n+2) (fu:=fu) r (jk A) E3.ok u f ⟨rf,rsE E3 h6,nP E3 h7⟩ (by omega) (by omega);refine⟨m3,?_,E3.trans E4⟩;rw [enter (sf:=f82) rfl rfl];simp [f82,P6 l j,u7,c,p9,o,e3,e2,V,N,k,w,a,y,W]
theorem afp (fu:Nat)(a:20000<=fu):∀d n:Nat,4*d+2<=n->C70 n fu d:=by
 intro d;induction d with
 | zero=>intro n b m g s j i h l c;obtain⟨o,p,e,t,f⟩:=s;rw [rJ] at c;omega
 | succ d ih=>intro n b;obtain⟨n,rfl⟩:∃k,n=k+6:=⟨n-6,by omega⟩;exact Yk a (λn b=>SH fu a d n b) (ih (n+2) (by omega)) (by omega)
noncomputable section
def Yl (k:Int):Int:=if k=18 then 0 else if k=17 then 1 else if k=5 then 2 else if 11<=k∧k<=16 then 3 else if k=9∨k=10 then 4 else if 6<=k∧k<=8 then 5 else if k=4 then 6 else 7
def sgn (k:Int):List UInt8:=if k=6 then [42] else if k=7 then [47] else if k=8 then [37] else if k=9 then [43] else if k=10 then [45] else if k=11 then [60] else if k=12 then [60,61] else if k=13 then [62] else if k=14 then [62,61] else if k=15 then [61,61] else if k=16 then [33,61] else if k=17 then [97,110,100] else if k=18 then [111,114] else []
def Vd (least:Int)(p:Int×List UInt8):List UInt8:=if Yl p.1<least then 40::(p.2 ++ [41]) else p.2
def adx (k n:Int)(s:List UInt8)(l:List (Int×List UInt8)):List UInt8:=
 if k=1 then Lib.itoa n else if k=2 then s else if k=3 then s++(40::(iM [44,32] (l.map (·.2)) ++ [41]))
 else if k=4 then 45::Vd 6 (l.getD 0 (0,[])) else if k=5 then [110,111,116,32]++Vd 2 (l.getD 0 (0,[]))
 else Vd (if Yl k=3 then 4 else Yl k) (l.getD 0 (0,[]))++(32::(sgn k++(32::Vd (Yl k+1) (l.getD 1 (0,[])))))
mutual
def txE:Ex->List UInt8
 | .mk k n s a=>adx k n s (Lv a)
def Lv:List Ex->List (Int×List UInt8)
 | []=>[]
 | e::l=>(Yg e,txE e)::Lv l
end
def txJ (l:List Ex):List UInt8:=iM [44,32] (l.map txE)
theorem SI:∀(k n:Nat),n<10^(k+1)->(Lib.decDigits n).length<=k+1
 | 0,n,h=>by rw [Lib.decDigits,dif_pos (by simpa using h)];simp
 | k+1,n,h=>by rw [Lib.decDigits];split;simp;have:=SI k (n / 10) (by rw [aj6] at h;omega);simp;omega
theorem QV {n:Int}(h0:0<=n)(a:n<=9007199254740992):(Lib.itoa n).length<=16:=by
 rw [Lib.itoa,if_neg (by omega)]
 exact SI 15 n.toNat (by have:(10:Nat)^(15+1)=10000000000000000:=by decide
                         omega)
theorem BF (sep:List UInt8):∀l:List (List UInt8),(iM sep l).length<=(l.map λs=>s.length+sep.length).sum
 | []=>q9 _
 | [s]=>by show s.length<=_;simp
 | s::t::l=>by have:=BF sep (t::l);show (aC s (aC sep (iM sep (t::l)))).length<=_;rw [R8,R8,aar,aar,Z6,agm];omega
theorem abk {p:Prop} [Decidable p]{a b:List UInt8}{n:Nat}(c:a.length<=n)(hb:b.length<=n):(if p then a else b).length<=n:=by split<;>assumption
theorem abl (k:Int):(sgn k).length<=3:=by
 unfold sgn;repeat' apply abk
 all_goals decide
theorem Ac (m:Int)(p:Int×List UInt8):(Vd m p).length<=p.2.length+2:=by unfold Vd;split<;>simp
theorem Lx {s:List UInt8}(h:Ai s=true):s.length<=16:=by simp only [Ai,Hl,decide_eq_true_eq] at h;omega
theorem OJ:∀(l:List (Int×List UInt8)) (i:Nat),(l.getD i (0,[])).2.length<=(l.map λp=>p.2.length).sum
 | [],i=>by simp
 | p::l,0=>by simp
 | p::l,i+1=>by have:=OJ l i;simp at this ⊢;omega
theorem Ve:∀(l:List (Int×List UInt8)),(l.getD 0 (0,[])).2.length+(l.getD 1 (0,[])).2.length<=(l.map λp=>p.2.length).sum
 | []=>by simp
 | [p]=>by simp
 | p::q::l=>by simp
mutual
theorem abm:∀e:Ex,cZ e=true->(txE e).length+4<=40*gM e
 | .mk k n s a,h=>by
  rw [txE,gM];have hs:k=2∨k=3->s.length<=16:=λhk=>by simp only [cZ,Hl,decide_eq_true_eq] at h;rw [if_pos hk] at h;exact Lx h.1.2
  have hn:k=1->0<=n∧n<=9007199254740992:=λhk=>by simp only [cZ,Hl,decide_eq_true_eq] at h;rw [if_pos hk] at h;simpa using h.1.1.2
  have ha:Y0 a=true:=by simp only [cZ,Hl] at h;exact h.2
  have hl:=LA a ha;have hj:((iM [44,32] ((Lv a).map (·.2))).length)<=((Lv a).map λp=>p.2.length).sum+2*a.length:=by
   have:=BF [44,32] ((Lv a).map (·.2));rw [ahk] at this;have e:∀l:List Ex,(List.map ((λs:List UInt8=>s.length + [(44:UInt8),32].length)∘λx:Int×List UInt8=>x.2) (Lv l)).sum=((Lv l).map λp=>p.2.length).sum+2*l.length:=by
    intro l;induction l with
    | nil=>rfl
    | cons x l ih=>rw [Lv,Z6,agm,ih,Z6,agm,Y6];simp;omega
   rw [e] at this;exact this
  have g0:=OJ (Lv a) 0;have g1:=Ve (Lv a);unfold adx;split;rename_i hk;have:=QV (hn hk).1 (hn hk).2;omega
  split;rename_i hk;have:=hs (.inl hk);omega
  split;rename_i hk;have:=hs (.inr hk);simp only [aar,Y6,ahd];omega
  split;have:=Ac 6 ((Lv a).getD 0 (0,[]));rw [Y6];omega;split;have:=Ac 2 ((Lv a).getD 0 (0,[]));simp only [aar,Y6,ahd];omega;have p1:=Ac (if Yl k=3 then 4 else Yl k) ((Lv a).getD 0 (0,[]));have p2:=Ac (Yl k+1) ((Lv a).getD 1 (0,[]));have p3:=abl k;simp only [aar,Y6];omega
theorem LA:∀l:List Ex,Y0 l=true->((Lv l).map λp=>p.2.length).sum+4*l.length<=40*T9 l
 | [],_=>by simp [Lv,T9]
 | e::l,h=>by rw [Y0,Hl] at h;have h1:=abm e h.1;have h2:=LA l h.2;rw [Lv,T9,Z6,agm,Y6];show (txE e).length + _ + _<=_;omega
end
theorem abn (l:List Ex)(h:Y0 l=true):(txJ l).length<=40*T9 l:=by
 have b:=LA l h;have a:=BF [44,32] (l.map txE);have e:∀l:List Ex,((l.map txE).map λs=>s.length + [(44:UInt8),32].length).sum=((Lv l).map λp=>p.2.length).sum+2*l.length:=by
  intro l;induction l with
  | nil=>rfl
  | cons x l ih=>rw [Lv,Z6,Z6,agm,ih,Z6,agm,Y6];simp;omega
 rw [e] at a;show (iM [44,32] (l.map txE)).length<=_;omega
def Ym (d:Nat):List UInt8:=List.replicate (2*d) 32
mutual
def txS:V7->Nat->List UInt8
 | .mk k s e t f,d=>
  if k=1 then Ym d++([108,101,116,32]++(s++([32,61,32]++(txJ e ++ [59,10]))))
  else if k=2 then Ym d++(s++([32,61,32]++(txJ e ++ [59,10])))
  else if k=5 then Ym d++([112,114,105,110,116,32]++(txJ e ++ [59,10]))
  else if k=6 then Ym d++(txJ e ++ [59,10])
  else if k=4 then Ym d++([119,104,105,108,101,32]++(txJ e++([32,123,10]++(QW t (d+1)++(Ym d ++ [125,10])))))
  else Ym d++([105,102,32]++(txJ e++([32,123,10]++(QW t (d+1)++((if 0<f.length then Ym d++([125,32,101,108,115,101,32,123,10]++QW f (d+1)) else [])++(Ym d ++ [125,10]))))))
def QW:List V7->Nat->List UInt8
 | [],_=>[]
 | s::l,d=>txS s d++QW l d
end
mutual
theorem abo:∀(s:V7) (d:Nat),tQ s=true->d+rJ s<=100->(txS s d).length<=700*stP s
 | .mk k s e t f,d,h,hd=>by
  have h':=h;simp only [tQ,Hl,decide_eq_true_eq] at h;obtain⟨⟨⟨⟨⟨⟨⟨⟨⟨⟨a1,a2⟩,a3⟩,a4⟩,a5⟩,a6⟩,a7⟩,a8⟩,a9⟩,b1⟩,b2⟩:=h;rw [rJ] at hd;have h1:=abn e a9;have h2:=Gc t (d+1) b1 (by omega);have h3:=Gc f (d+1) b2 (by omega);have hi:(Ym d).length<=200:=by rw [Ym,List.length_replicate];omega
  have hs:s.length<=16:=by
   split at a3;exact Lx a3;have:s=[]:=by simpa using a3
   simp [this]
  rw [txS,stP];repeat' split
  all_goals simp only [aar,Y6,ahd]
  all_goals omega
theorem Gc:∀(l:List V7) (d:Nat),aT l=true->d+au l<=100->(QW l d).length<=700*U2 l
 | [],d,_,_=>by simp [QW]
 | s::l,d,h,hd=>by rw [aT,Hl] at h;rw [au] at hd;have h1:=abo s d h.1 (by omega);have h2:=Gc l d h.2 (by omega);rw [QW,U2,aar];omega
end
end
def Zx (l:List V7):Int:=if (ni l).1<0 then 2 else if aT l=true then 0 else 1
theorem Yn {l:List V7}(h:Zx l=0):U2 l<=500∧au l<=20∧aT l=true:=by
 unfold Zx ni at h;by_cases c:U2 l<=500∧au l<=20;rw [if_pos c] at h;have:¬ ((U2 l:Int),(au l:Int)).1<0:=by simp
 rw [if_neg this] at h;by_cases f:aT l=true;exact⟨c.1,c.2,f⟩;rw [if_neg f] at h;omega;rw [if_neg c] at h;simp at h
theorem afr {m:Mem}(q:m.Ok)(e:m.lim<=m.nx){v:d9}{l:List V7}(h:O4 m (λ_=>True) l v)(hp:U2 l<=10000)(p:au l<=26)(n fu:Nat)(s:110<=n)(d:20000<=fu):
  ∃m',l7 KW fu (n+1) (.func 45) [v] m=some [⟨iV (Zx l),m'⟩]∧Ext m m':=by
 obtain⟨n,rfl⟩:∃k,n=k+60:=⟨n-60,by omega⟩;obtain⟨g,j,E1⟩:=af2 q e h hp (n+10) fu d;obtain⟨r,o,E2⟩:=rM (cl:=81) (n:=n+57) (fu:=fu) d (afo (afp fu d 26 (n+57) (by omega))) E1.ok (by rw [E1.lim];exact aA e E1.nx) l (O4.ext h E1) hp p;have b:l7 KW fu (n+60) (.func 79) [v] m=_:=j;have a:l7 KW fu (n+60) (.func 80) [v,.func (.func 81) [] []] g=_:=o;unfold Zx;by_cases c:(ni l).1<0;refine⟨g,?_,E1⟩;rw [if_pos c,enter (sf:=f45) rfl rfl];simp [f45,b,c];refine⟨r,?_,E1.trans E2⟩;rw [if_neg c,enter (sf:=f45) rfl rfl];by_cases f:aT l=true;rw [if_pos f];rw [f] at a;simp [f45,b,c,a];have i:aT l=false:=by simpa using f
 rw [if_neg f];rw [i] at a;simp [f45,b,c,a]
noncomputable def SK (b:Option P8)(f:Gv)(n:Nat)(z:d9)(ok:Bool)(k:d9):Option d9:=CJ b λes=>ob (R3 f n k es) λr=>found ok z r
theorem fq (f:Gv)(n:Nat)(z:d9)(ok:Bool)(mp k:OF)(ls:List d9)(env:T d9)(m:Mem):BK f n z ok mp k ls env m=uq (mp ls env) (ob (R3 f n (k ls env) []) λr=>found ok z r) λid=>SK (m.get id) f n z ok (k ls env):=rfl
theorem bs1 (z:List d9)(ps:List (Nat×Nat×OF))(ls:List d9)(env:T d9)(a:Nat)(h:z.length=1):O9 1 1 z ps ls env a=ob (lay ps ls env z) λcells=>if cells.length=1 then some (.slice a 0 1 1,some (l9 cells)) else none:=kG 1 z ps ls env a h
def Bu (lo:Nat)(M:Mem)(p:Nat)(s:List UInt8):Prop:=lo<=p∧p<M.nx∧∃a v,M.get p=some (Mw 135 [a,v])∧(a=.nilPtr∨a=.ptr p 0)∧
 ((v=nS∧s=[])∨∃id,lo<=id∧id<M.nx∧id≠p∧v=.sliceU id 0 s.length 1∧M.get id=some (.buf 5 s)∧s≠[])
theorem Bu.ext {lo p:Nat}{M c:Mem}{s:List UInt8}(h:Bu lo M p s)(e:Ext M c):Bu lo c p s:=by obtain⟨f,d,a,v,g,i,b⟩:=h;refine⟨f,gq d e.nx,a,v,(e.old p d).trans g,i,?_⟩;rcases b with b | ⟨id,q1,q2,q3,q4,q5,q6⟩;exact .inl b;exact .inr ⟨id,q1,gq q2 e.nx,q3,q4,(e.old id q2).trans q5,q6⟩
theorem JF {k:Int}{s:List UInt8}{e:List Ex}{t f:List V7}(h:tQ (.mk k s e t f)=true):(k=1∨k=2∨k=3∨k=4∨k=5∨k=6)∧Y0 e=true∧aT t=true∧aT f=true∧s.length<=16∧fmQ k e t f:=by
 have q:=h;simp only [tQ,Hl,adi,decide_eq_true_eq] at h;obtain⟨⟨⟨⟨⟨⟨⟨⟨⟨⟨o,p⟩,b⟩,c⟩,d⟩,g⟩,i⟩,j⟩,l⟩,m⟩,n⟩:=h;refine⟨by omega,l,m,n,?_,c,d,by rcases g with (a | a) | a<;>simp [a],i,j⟩
 split at b;exact Lx b;have:s=[]:=by simpa using b
 simp [this]
def arT:List (List UInt8×Int):=[([114,111,111,109],1),([107,110,111,119,110],1),([102,105,108,109],2),([103,97,117,103,101],8),([117,115,101],2),([108,111,97,110],4),([99,111,109,112,97,114,101],7),([109,105,120],3),([119,105,116,104,100,114,97,119],2),([115,101,110,100],1),([99,114,97,115,104],1),
 ([102,97,99,116,115],0),([108,111,119],2),([104,105,103,104],2),([99,111,117,110,116],2),([106,117,100,103,101],4),([101,120,112,108,97,105,110,101,100],0),([98,108,97,109,101],0),([113,117,97,114,114,101,108],2),([101,114,114,110,111],0)]
def arF:List (List UInt8×Int)->List UInt8->Int
 | [],_=>-1
 | p::l,s=>if s=p.1 then p.2 else arF l s
def arity (s:List UInt8):Int:=arF arT s
def aj (V:List (List UInt8))(s:List UInt8):Bool:=V.any λt=>decide (s=t)
mutual
def Pn:Ex->List (List UInt8)->Int
 | .mk k n s a,V=>if k=2∧aj V s=false then 5 else if k=3∧arity s<0 then 5 else if k=3∧¬ arity s=(a.length:Int) then 1 else jN a V
def jN:List Ex->List (List UInt8)->Int
 | [],_=>0
 | e::l,V=>if Pn e V=0 then jN l V else Pn e V
end
def stK:V7->Int
 | .mk k _ _ _ _=>k
def Yo (s:V7)(V:List (List UInt8)):List (List UInt8):=if stK s=1 then V ++ [stN s] else V
mutual
def wO:V7->List (List UInt8)->Int
 | .mk k s e t f,V=>if ¬ jN e V=0 then jN e V else if k=2∧aj V s=false then 5 else if k=1∧aj V s=true then 6
   else if ¬ P7 t (if k=1 then V ++ [s] else V)=0 then P7 t (if k=1 then V ++ [s] else V) else P7 f (if k=1 then V ++ [s] else V)
def P7:List V7->List (List UInt8)->Int
 | [],_=>0
 | s::l,V=>if wO s V=0 then P7 l (Yo s V) else wO s V
end
mutual
theorem aft:∀(e:Ex) (V W:List (List UInt8)),(∀x,aj V x=aj W x)->Pn e V=Pn e W
 | .mk k n s a,V,W,h=>by rw [Pn,Pn,h s,DR a V W h]
theorem DR:∀(l:List Ex) (V W:List (List UInt8)),(∀x,aj V x=aj W x)->jN l V=jN l W
 | [],V,W,h=>by rw [jN,jN]
 | e::l,V,W,h=>by rw [jN,jN,aft e V W h,DR l V W h]
end
theorem wF (V:List (List UInt8))(s x:List UInt8):aj (V ++ [s]) x=(aj V x||decide (x=s)):=by simp [aj]
theorem LB {V W:List (List UInt8)}(h:∀x,aj V x=aj W x)(k:Int)(s:List UInt8):∀x,aj (if k=1 then V ++ [s] else V) x=aj (if k=1 then W ++ [s] else W) x:=by intro x;split;rw [wF,wF,h x];exact h x
mutual
theorem afu:∀(s:V7) (V W:List (List UInt8)),(∀x,aj V x=aj W x)->wO s V=wO s W
 | .mk k s e t f,V,W,h=>by rw [wO,wO,DR e V W h,h s,Ad t _ _ (LB h k s),Ad f _ _ (LB h k s)]
theorem Ad:∀(l:List V7) (V W:List (List UInt8)),(∀x,aj V x=aj W x)->P7 l V=P7 l W
 | [],V,W,h=>by rw [P7,P7]
 | .mk k s e t f::l,V,W,h=>by rw [P7,P7,afu _ V W h];have:P7 l (Yo (.mk k s e t f) V)=P7 l (Yo (.mk k s e t f) W):=Ad l _ _ (LB h k s);rw [this]
end
end Go.Proofs.YtfddpcckppibjaaGreatDoor.TT

