/- Well-formed statements, walked; conditions: the memory holds what the arguments say. -/
import Derived.Test.YtfddpcckppibjaaGreatDoorPD2
import Derived.Lib.ItoaNum
import Derived.KernelRfl
set_option linter.all false
namespace Go.Proofs.YtfddpcckppibjaaGreatDoor.TT
open Go Go.AM
set_option maxRecDepth 100000
set_option maxHeartbeats 8000000
def fmQ (k:Int)(e:List Ex)(t f:List ak):Prop:=e.length≠0∧(e.length<=1∨k=5)∧(t.length=0∨k=3∨k=4)∧(f.length=0∨k=3)∧(k≠6∨(e.map sK).head?=some 3)
theorem dQ {k:Int}{s:List UInt8}{e:List Ex}{t f:List ak}(h:¬ fmQ k e t f):Bf (.mk k s e t f)=false:=by
 cases hh:Bf (.mk k s e t f) with
 | false=>rfl
 | true=>exfalso;apply h;simp only [Bf,q8,aci,decide_eq_true_eq] at hh;obtain⟨⟨⟨⟨⟨⟨⟨⟨⟨⟨j,l⟩,m⟩,b⟩,c⟩,d⟩,g⟩,i⟩,n⟩,o⟩,p⟩:=hh;exact⟨b,c,by rcases d with (a | a) | a<;>simp [a],g,i⟩
theorem wo {k:Int}{s:List UInt8}{e:List Ex}{t f:List ak}(h:fmQ k e t f)(p:1<=k)(q:k<=6)(hs:(if k=1∨k=2 then Kz s else decide (s=[]))=true):Bf (.mk k s e t f)=(V6 e&&eO t&&eO f):=by
 obtain⟨a,b,c,d,x⟩:=h;have g:decide (1<=k)=true:=decide_eq_true p;have i:decide (k<=6)=true:=decide_eq_true q;have j:decide (e.length≠0)=true:=decide_eq_true a;have l:(decide (e.length<=1)||decide (k=5))=true:=by simpa using b
 have m:(decide (t.length=0)||decide (k=3)||decide (k=4))=true:=by rcases c with c | c | c<;>simp [c]
 have n:(decide (f.length=0)||decide (k=3))=true:=by rcases d with d | d<;>simp [d]
 have o:(decide (k≠6)||decide ((e.map sK).head?=some 3))=true:=by rcases x with x | x<;>simp [x]
 rw [Bf,hs,g,i,j,l,m,n,o];simp
def C70 (n fu d:Nat):Prop:=∀(m:Mem) (row:List d9) (e:ak),m.Ok->m.lim<=m.nx->mD m (λ_=>True) e row->stP e<=10000->wh e<=d->
 ∃m',j6 KW fu n (.func 82) [.agg row] m=some [⟨.bool (Bf e),m'⟩]∧Ext m m'
def CH (g:FuncId)(n fu d:Nat):Prop:=∀(m:Mem) (row:List d9) (e:ak),m.Ok->m.lim<=m.nx->mD m (λ_=>True) e row->stP e<=10000->wh e<=d->
 ∃m',j6 KW fu n (.func g) [.agg row] m=some [⟨.bool (!Bf e),m'⟩]∧Ext m m'
theorem jl {n fu d:Nat}(b:C70 n fu d):CH 135 (n+1) fu d:=by
 intro m a e k j h o l;have p:=h.row;obtain⟨c,f⟩:=p;have E:=G7 k [o7 a];obtain⟨q,g,E1⟩:=b (ext m [o7 a]) a e E.ok (by rw [E.lim];exact aP j E.nx) (aep E h) o l;refine⟨q,?_,E.trans E1⟩;have i:CY (some (o7 a)) 0 5=some (.agg a):=by rw [fP (by omega) (by omega),U9,W9 (by omega)]
 rw [enter (sf:=f135) rfl rfl];simp [f135,aX k j,w9,c,f,i,g]
theorem aeJ {n fu d:Nat}(b:C70 n fu d):CH 81 (n+1) fu d:=by
 intro m a e k j h o l;have p:=h.row;obtain⟨c,f⟩:=p;have E:=G7 k [o7 a];obtain⟨q,g,E1⟩:=b (ext m [o7 a]) a e E.ok (by rw [E.lim];exact aP j E.nx) (aep E h) o l;refine⟨q,?_,E.trans E1⟩;have i:CY (some (o7 a)) 0 5=some (.agg a):=by rw [fP (by omega) (by omega),U9,W9 (by omega)]
 rw [enter (sf:=f81) rfl rfl];simp [f81,aX k j,w9,c,f,i,g]
theorem XD {cl:FuncId}{n fu d:Nat}(G:CH cl (n+1) fu d){m:Mem}(U:m.Ok)(I:m.lim<=m.nx){v:d9}{rows:List (List d9)}(a:List ak)(B:jf m (λ_=>True) 5 v rows)(z:H7 m (λ_=>True) a rows)(L:Z0 a<=10000)(T:aR a<=d):
  ∀(j i:Nat),i+j=a.length->∀(c k b:d9) (M:Mem) (N:Nat),Ext m M->j+1<=N->
  (eO (a.drop i)=true∧∃c' k' b' M',I4 (λenv m k=>qA (j6 KW fu (n+1)) fu none env m k) N (pJ v (iV (i:Int)) (iV (a.length:Int)) c (.func (.func cl) [] []) k b (iV 0)) M []=some [⟨.exit 0,(pJ v (iV (a.length:Int)) (iV (a.length:Int)) c' (.func (.func cl) [] []) k' b' (iV 0)),M',[],none⟩]∧Ext m M')∨
  (eO (a.drop i)=false∧∃(i' c' k' b':d9) (r':Nat) (M':Mem),I4 (λenv m k=>qA (j6 KW fu (n+1)) fu none env m k) N (pJ v (iV (i:Int)) (iV (a.length:Int)) c (.func (.func cl) [] []) k b (iV 0)) M []=some [⟨.ret,(pJ v i' (iV (a.length:Int)) c' (.func (.func cl) [] []) k' b' (iV (r':Int))),M',[],none⟩]∧Ext m M'):=by
 have u:=H7.len z;have J:=bD a;intro j;induction j with
 | zero=>
  intro i H c k b M N E D;obtain⟨N,rfl⟩:∃k,N=k+1:=⟨N-1,by omega⟩;obtain rfl:i=a.length:=by omega
  refine .inl ⟨by simp [eO],.bool false,k,b,M,?_,E⟩;rw [p9];simp [qA]
 | succ j ih=>
  intro i H c k b M N E D;obtain⟨N,rfl⟩:∃k,N=k+1:=⟨N-1,by omega⟩;have e:i<a.length:=by omega
  have f:i<rows.length:=by omega
  have g:(i:Int)<(a.length:Int):=by omega
  have C:=E.ok;have s:M.lim<=M.nx:=by rw [E.lim];exact aP I E.nx
  have t:a.drop i=a[i]::a.drop (i+1):=Y8 e;rw [t,eO];obtain⟨P,V,y,Q,R,A,S⟩:=(B.slice.ext E).at f;have h:=H7.get z i e f;have O:=h.row;have l:=A 0 5 (by omega) (by omega);rw [U9,W9 (by omega),Y6] at l;have K:=mE a i e;have F:=vF a i e;have o:mD M (λ_=>True) a[i] rows[i]:=aep E h;generalize hX:a[i]=X at *;generalize hR:rows[i]=R1 at *;obtain⟨x,r,E2⟩:=G M R1 X C s o (by omega) (by omega);by_cases hf:Bf X=true;rw [hf] at r;have w:=ih (i+1) (by omega) tt (iV (i:Int)) ff x N (E.trans E2) (by omega);have q:I4 (λenv m k=>qA (j6 KW fu (n+1)) fu none env m k) (N+1) (pJ v (iV (i:Int)) (iV (a.length:Int)) c (.func (.func cl) [] []) k b (iV 0)) M []=I4 (λenv m k=>qA (j6 KW fu (n+1)) fu none env m k) N (pJ v (.int .i64 ((i+1:Nat):Int)) (iV (a.length:Int)) tt (.func (.func cl) [] []) (iV (i:Int)) ff (iV 0)) x []:=by rw [p9];simp [qA,e,g,y,l,r,P9 (i:=i) (by omega)]
  rw [q,hf,aea];exact w;have p:Bf X=false:=by simpa using hf
  rw [p] at r;refine .inr ⟨by rw [p];rfl,iV (i:Int),.bool true,iV (i:Int),.bool true,i,x,?_,E.trans E2⟩;rw [p9];simp [qA,e,g,y,l,r]
theorem qZ {cl:FuncId}{n fu d:Nat}(u:20000<=fu)(w:CH cl (n+1) fu d){m:Mem}(p:m.Ok)(x:m.lim<=m.nx){v:d9}(a:List ak)(h:U2 m (λ_=>True) a v)(l:Z0 a<=10000)(t:aR a<=d):
  ∃m',j6 KW fu (n+3) (.func 80) [v,(.func (.func cl) [] [])] m=some [⟨.bool (!eO a),m'⟩]∧Ext m m':=by
 obtain⟨s,j,o⟩:=h;have f:=H7.len o;have c:=j.slice.len;rw [f] at c;have y:=bD a;have r:=KV j.slice;rcases XD (n:=n) (fu:=fu) w p x a j o l t a.length 0 (by omega) .undef .undef .undef m fu (Ext.refl p) (by omega) with⟨ha,c',k',b',M',g,q⟩ | ⟨ha,i',c',k',b',r',M',g,q⟩;have i:I4 (λe m k=>qA (j6 KW fu (n+1)) fu none e m k) fu (pJ v (iV 0) (iV (a.length:Int)) .undef (.func (.func cl) [] []) .undef .undef (iV 0)) m []=_:=g;rw [U9] at ha;have b:j6 KW fu (n+2) (.func 134) [v,(.func (.func cl) [] [])] m=some [⟨iV (-1),M'⟩]:=by rw [enter (sf:=f134) rfl rfl];simp [f134,c,i,r]
 refine⟨M',?_,q⟩;rw [enter (sf:=f80) rfl rfl];simp [f80,b,ha];have i:I4 (λe m k=>qA (j6 KW fu (n+1)) fu none e m k) fu (pJ v (iV 0) (iV (a.length:Int)) .undef (.func (.func cl) [] []) .undef .undef (iV 0)) m []=_:=g;rw [U9] at ha;have b:j6 KW fu (n+2) (.func 134) [v,(.func (.func cl) [] [])] m=some [⟨iV (r':Int),M'⟩]:=by rw [enter (sf:=f134) rfl rfl];simp [f134,c,i,r]
 have z:(0:Int)<=(r':Int):=by omega
 refine⟨M',?_,q⟩;rw [enter (sf:=f80) rfl rfl];simp [f80,b,ha,z]
theorem XE {n fu d:Nat}(r:20000<=fu)(I:∀n,4*d+2<=n->XB n fu d)(A:C70 (n+2) fu d)(hn:4*d<=n):C70 (n+6) fu (d+1):=by
 intro m ak s l j h hp hd;obtain⟨k0,M,e,t,f⟩:=s;obtain⟨v,U,T,re,rt,rf,rfl,Y,h2,h4,h5,h6,h7⟩:=h;have ov:=Y.slice.w9;have cv:=Y.slice.cells;have af:=h4.slice.w9;have a9:=h4.slice.cells;have ae:=h6.slice.w9;have a8:=h6.slice.cells;have o:=KV Y.slice;have S:=D9.len h2;have a0:=Y.slice.len;rw [S] at a0;have a7:=h4.slice.len;rw [H7.len h5] at a7;have a6:=h6.slice.len;rw [H7.len h7] at a6;have c:=And.intro ov (And.intro af (And.intro ae (And.intro cv (And.intro a9 (And.intro a8 (And.intro a0 (And.intro a7 a6)))))));rw [stP] at hp;rw [wh] at hd;have E:=G7 l [o7 (r5 k0 M v U T)];have ai:=Q8 e;have aj:=bD t;have ah:=bD f;by_cases k1:k0<1;refine⟨_,?_,E⟩;have ac:¬ 1<=k0:=by omega
 rw [show Bf (.mk k0 M e t f)=false by simp [Bf,ac]];rw [enter (sf:=f82) rfl rfl];simp [f82,aX l j,w9,c,D5,o,k1];by_cases k2:6<k0;refine⟨_,?_,E⟩;have ad:¬ k0<=6:=by omega
 rw [show Bf (.mk k0 M e t f)=false by simp [Bf,ad]];rw [enter (sf:=f82) rfl rfl];simp [f82,aX l j,w9,c,D5,o,k1,k2];by_cases hN:k0=1∨k0=2
 ·rcases hN with rfl | rfl
  ·
   by_cases e0:e.length=0;refine⟨_,?_,E⟩;rw [dQ (λq=>q.1 e0)];rw [enter (sf:=f82) rfl rfl];simp [f82,aX l j,w9,c,D5,o,e0];have B:0<e.length:=by omega
   have z:0<(e.length:Int):=by omega
   have x:¬ e=[]:=λh=>by simp [h] at e0
   have g:=And.intro B (And.intro z x);by_cases e1:1<(e.length:Int);refine⟨_,?_,E⟩;rw [dQ (λq=>by rcases q.2.1 with q | q<;>omega)]
   rw [enter (sf:=f82) rfl rfl];simp [f82,aX l j,w9,c,D5,o,e0,g,e1];obtain⟨m1,p,E1⟩:=KA (n:=n) r E.ok (by rw [E.lim];exact aP j E.nx) M;have R:m1.get m.nx=some (o7 (r5 1 M v U T)):=(E1.old _ (by simp)).trans (by rw [A8 l];rfl);by_cases hb:Kz M=true
   case neg=>have Z:Kz M=false:=(by simpa using hb);refine⟨m1,?_,E.trans E1⟩;rw [show Bf (.mk 1 M e t f)=false by simp [Bf,Z]];rw [enter (sf:=f82) rfl rfl];simp [f82,aX l j,w9,c,D5,o,e0,g,e1,p,Z,R]
   by_cases e3:t.length=0
   case neg=>
    have O:0<(t.length:Int):=(by omega);have P:¬ t=[]:=λh=>(by simp [h] at e3);have Q:0<t.length:=(by omega);refine⟨_,?_,E.trans E1⟩;rw [dQ (λq=>by rcases q.2.2.1 with q | q | q<;>omega)]
    rw [enter (sf:=f82) rfl rfl];simp [f82,aX l j,w9,c,D5,o,e0,g,e1,p,hb,R,e3,Q,O,P]
   by_cases e2:f.length=0
   case neg=>
    have J:0<(f.length:Int):=(by omega);have K:¬ f=[]:=λh=>(by simp [h] at e2);have L:0<f.length:=(by omega);refine⟨_,?_,E.trans E1⟩;rw [dQ (λq=>by rcases q.2.2.2.1 with q | q<;>omega)]
    rw [enter (sf:=f82) rfl rfl];simp [f82,aX l j,w9,c,D5,o,e0,g,e1,p,hb,R,e3,e2,L,J,K]
   rw [wo (e:=e) ⟨e0,.inl (by omega),.inl e3,.inl e2,.inl (by omega)⟩ (by omega) (by omega) (by show _=_;simp [hb])];have E0:Ext m m1:=E.trans E1;obtain⟨M',a,q⟩:=Fv (cl:=136) (n:=n+2) (fu:=fu) r (wm (I (n+2) (by omega))) E0.ok (by rw [E0.lim];exact aP j E0.nx) e ⟨re,rsE E0 Y,Gt E0 h2⟩ (by omega) (by omega);have k:M'.get m.nx=some (o7 (r5 1 M v U T)):=(q.old m.nx (gq (by simp) E1.nx)).trans R;have E5:=E0.trans q;by_cases fe:V6 e=true
   case neg=>have C:V6 e=false:=(by simpa using fe);refine⟨M',?_,E5⟩;rw [C] at a ⊢;rw [enter (sf:=f82) rfl rfl];simp [f82,aX l j,w9,c,D5,o,e0,g,e1,p,hb,R,e3,e2,k,a]
   rw [fe] at a ⊢;have F:M'.lim<=M'.nx:=by rw [E5.lim];exact aP j E5.nx
   obtain⟨H,y,E2⟩:=qZ (cl:=135) (n:=n+2) (fu:=fu) r (jl A) E5.ok F t ⟨rt,rsE E5 h4,CB E5 h5⟩ (by omega) (by omega);have G:m.nx<M'.nx:=gq (by simp) (aP E1.nx q.nx);have w:=(E2.old m.nx G).trans k;have E3:=E5.trans E2;by_cases ft:eO t=true
   case neg=>have D:eO t=false:=(by simpa using ft);refine⟨H,?_,E3⟩;rw [D] at y ⊢;rw [enter (sf:=f82) rfl rfl];simp [f82,aX l j,w9,c,D5,o,e0,g,e1,p,hb,R,e3,e2,k,w,a,y]
   rw [ft] at y ⊢;have u:H.lim<=H.nx:=by rw [E3.lim];exact aP j E3.nx
   obtain⟨m3,W,E4⟩:=qZ (cl:=135) (n:=n+2) (fu:=fu) r (jl A) E3.ok u f ⟨rf,rsE E3 h6,CB E3 h7⟩ (by omega) (by omega);refine⟨m3,?_,E3.trans E4⟩;rw [enter (sf:=f82) rfl rfl];simp [f82,aX l j,w9,c,D5,o,e0,g,e1,p,hb,R,e3,e2,k,w,a,y,W]
  ·
   by_cases e0:e.length=0;refine⟨_,?_,E⟩;rw [dQ (λq=>q.1 e0)];rw [enter (sf:=f82) rfl rfl];simp [f82,aX l j,w9,c,D5,o,e0];have B:0<e.length:=by omega
   have z:0<(e.length:Int):=by omega
   have x:¬ e=[]:=λh=>by simp [h] at e0
   have g:=And.intro B (And.intro z x);by_cases e1:1<(e.length:Int);refine⟨_,?_,E⟩;rw [dQ (λq=>by rcases q.2.1 with q | q<;>omega)]
   rw [enter (sf:=f82) rfl rfl];simp [f82,aX l j,w9,c,D5,o,e0,g,e1];obtain⟨m1,p,E1⟩:=KA (n:=n) r E.ok (by rw [E.lim];exact aP j E.nx) M;have R:m1.get m.nx=some (o7 (r5 2 M v U T)):=(E1.old _ (by simp)).trans (by rw [A8 l];rfl);by_cases hb:Kz M=true
   case neg=>have Z:Kz M=false:=(by simpa using hb);refine⟨m1,?_,E.trans E1⟩;rw [show Bf (.mk 2 M e t f)=false by simp [Bf,Z]];rw [enter (sf:=f82) rfl rfl];simp [f82,aX l j,w9,c,D5,o,e0,g,e1,p,Z,R]
   by_cases e3:t.length=0
   case neg=>
    have O:0<(t.length:Int):=(by omega);have P:¬ t=[]:=λh=>(by simp [h] at e3);have Q:0<t.length:=(by omega);refine⟨_,?_,E.trans E1⟩;rw [dQ (λq=>by rcases q.2.2.1 with q | q | q<;>omega)]
    rw [enter (sf:=f82) rfl rfl];simp [f82,aX l j,w9,c,D5,o,e0,g,e1,p,hb,R,e3,Q,O,P]
   by_cases e2:f.length=0
   case neg=>
    have J:0<(f.length:Int):=(by omega);have K:¬ f=[]:=λh=>(by simp [h] at e2);have L:0<f.length:=(by omega);refine⟨_,?_,E.trans E1⟩;rw [dQ (λq=>by rcases q.2.2.2.1 with q | q<;>omega)]
    rw [enter (sf:=f82) rfl rfl];simp [f82,aX l j,w9,c,D5,o,e0,g,e1,p,hb,R,e3,e2,L,J,K]
   rw [wo (e:=e) ⟨e0,.inl (by omega),.inl e3,.inl e2,.inl (by omega)⟩ (by omega) (by omega) (by show _=_;simp [hb])];have E0:Ext m m1:=E.trans E1;obtain⟨M',a,q⟩:=Fv (cl:=136) (n:=n+2) (fu:=fu) r (wm (I (n+2) (by omega))) E0.ok (by rw [E0.lim];exact aP j E0.nx) e ⟨re,rsE E0 Y,Gt E0 h2⟩ (by omega) (by omega);have k:M'.get m.nx=some (o7 (r5 2 M v U T)):=(q.old m.nx (gq (by simp) E1.nx)).trans R;have E5:=E0.trans q;by_cases fe:V6 e=true
   case neg=>have C:V6 e=false:=(by simpa using fe);refine⟨M',?_,E5⟩;rw [C] at a ⊢;rw [enter (sf:=f82) rfl rfl];simp [f82,aX l j,w9,c,D5,o,e0,g,e1,p,hb,R,e3,e2,k,a]
   rw [fe] at a ⊢;have F:M'.lim<=M'.nx:=by rw [E5.lim];exact aP j E5.nx
   obtain⟨H,y,E2⟩:=qZ (cl:=135) (n:=n+2) (fu:=fu) r (jl A) E5.ok F t ⟨rt,rsE E5 h4,CB E5 h5⟩ (by omega) (by omega);have G:m.nx<M'.nx:=gq (by simp) (aP E1.nx q.nx);have w:=(E2.old m.nx G).trans k;have E3:=E5.trans E2;by_cases ft:eO t=true
   case neg=>have D:eO t=false:=(by simpa using ft);refine⟨H,?_,E3⟩;rw [D] at y ⊢;rw [enter (sf:=f82) rfl rfl];simp [f82,aX l j,w9,c,D5,o,e0,g,e1,p,hb,R,e3,e2,k,w,a,y]
   rw [ft] at y ⊢;have u:H.lim<=H.nx:=by rw [E3.lim];exact aP j E3.nx
   obtain⟨m3,W,E4⟩:=qZ (cl:=135) (n:=n+2) (fu:=fu) r (jl A) E3.ok u f ⟨rf,rsE E3 h6,CB E3 h7⟩ (by omega) (by omega);refine⟨m3,?_,E3.trans E4⟩;rw [enter (sf:=f82) rfl rfl];simp [f82,aX l j,w9,c,D5,o,e0,g,e1,p,hb,R,e3,e2,k,w,a,y,W]
 have n1:¬ k0=1:=by omega
 have n2:¬ k0=2:=by omega
 by_cases hs:M=[]
 case neg=>
  have aa:Bf (.mk k0 M e t f)=false:=by simp [Bf,hs,n1,n2]
  refine⟨_,?_,E⟩;rw [aa];by_cases e0:e.length=0;rw [enter (sf:=f82) rfl rfl];simp [f82,aX l j,w9,c,D5,o,k1,k2,n1,n2,hs,e0];have z:¬ (e.length:Int)=0:=by omega
  have x:¬ e=[]:=λh=>by simp [h] at e0
  by_cases e1:1<(e.length:Int);by_cases k5:k0=5;subst k5;rw [enter (sf:=f82) rfl rfl];simp [f82,aX l j,w9,c,D5,o,hs,e0,x,e1];rw [enter (sf:=f82) rfl rfl];simp [f82,aX l j,w9,c,D5,o,k1,k2,n1,n2,hs,e0,x,e1,k5];rw [enter (sf:=f82) rfl rfl];simp [f82,aX l j,w9,c,D5,o,k1,k2,n1,n2,hs,e0,x,e1]
 subst hs;have hk:k0=3∨k0=4∨k0=5∨k0=6:=by omega
 rcases hk with rfl | rfl | rfl | rfl
 ·
  by_cases e0:e.length=0;refine⟨_,?_,E⟩;rw [dQ (λq=>q.1 e0)];rw [enter (sf:=f82) rfl rfl];simp [f82,aX l j,w9,c,D5,o,e0];have B:0<e.length:=by omega
  have z:0<(e.length:Int):=by omega
  have x:¬ e=[]:=λh=>by simp [h] at e0
  have g:=And.intro B (And.intro z x);by_cases e1:1<(e.length:Int);refine⟨_,?_,E⟩;rw [dQ (λq=>by rcases q.2.1 with q | q<;>omega)]
  rw [enter (sf:=f82) rfl rfl];simp [f82,aX l j,w9,c,D5,o,e0,g,e1];obtain⟨bt,z1,z2⟩:∃b:Bool,decide (0<(t.length:Int))=b∧decide (0<t.length)=b:=⟨_,rfl,by simp⟩;cases bt;all_goals (
  obtain⟨bf,z3,z4⟩:∃b:Bool,decide (0<(f.length:Int))=b∧decide (0<f.length)=b:=⟨_,rfl,by simp⟩;cases bf;all_goals (
  rw [wo (e:=e) ⟨e0,.inl (by omega),.inr (.inl rfl),.inr rfl,.inl (by omega)⟩ (by omega) (by omega) (by simp)];have E0:Ext m (ext m [o7 (r5 3 [] v U T)]):=E;obtain⟨M',a,q⟩:=Fv (cl:=136) (n:=n+2) (fu:=fu) r (wm (I (n+2) (by omega))) E0.ok (by rw [E0.lim];exact aP j E0.nx) e ⟨re,rsE E0 Y,Gt E0 h2⟩ (by omega) (by omega);have k:M'.get m.nx=some (o7 (r5 3 [] v U T)):=(q.old m.nx (by simp)).trans (by rw [A8 l];rfl);have E5:=E0.trans q;by_cases fe:V6 e=true
  case neg=>
   have C:V6 e=false:=by simpa using fe
   refine⟨M',?_,E5⟩;rw [C] at a ⊢;rw [enter (sf:=f82) rfl rfl];simp [f82,aX l j,w9,c,D5,o,e0,g,e1,z1,z2,z3,z4,k,a]
  rw [fe] at a ⊢;have F:M'.lim<=M'.nx:=by rw [E5.lim];exact aP j E5.nx
  obtain⟨H,y,E2⟩:=qZ (cl:=135) (n:=n+2) (fu:=fu) r (jl A) E5.ok F t ⟨rt,rsE E5 h4,CB E5 h5⟩ (by omega) (by omega);have G:m.nx<M'.nx:=gq (by simp) (aP (J2 _) q.nx);have w:=(E2.old m.nx G).trans k;have E3:=E5.trans E2;by_cases ft:eO t=true
  case neg=>
   have D:eO t=false:=by simpa using ft
   refine⟨H,?_,E3⟩;rw [D] at y ⊢;rw [enter (sf:=f82) rfl rfl];simp [f82,aX l j,w9,c,D5,o,e0,g,e1,z1,z2,z3,z4,k,w,a,y]
  rw [ft] at y ⊢;have u:H.lim<=H.nx:=by rw [E3.lim];exact aP j E3.nx
  obtain⟨m3,W,E4⟩:=qZ (cl:=135) (n:=n+2) (fu:=fu) r (jl A) E3.ok u f ⟨rf,rsE E3 h6,CB E3 h7⟩ (by omega) (by omega);refine⟨m3,?_,E3.trans E4⟩;rw [enter (sf:=f82) rfl rfl];simp [f82,aX l j,w9,c,D5,o,e0,g,e1,z1,z2,z3,z4,k,w,a,y,W]))
 ·
  by_cases e0:e.length=0;refine⟨_,?_,E⟩;rw [dQ (λq=>q.1 e0)];rw [enter (sf:=f82) rfl rfl];simp [f82,aX l j,w9,c,D5,o,e0];have B:0<e.length:=by omega
  have z:0<(e.length:Int):=by omega
  have x:¬ e=[]:=λh=>by simp [h] at e0
  have g:=And.intro B (And.intro z x);by_cases e1:1<(e.length:Int);refine⟨_,?_,E⟩;rw [dQ (λq=>by rcases q.2.1 with q | q<;>omega)]
  rw [enter (sf:=f82) rfl rfl];simp [f82,aX l j,w9,c,D5,o,e0,g,e1];obtain⟨bt,z1,z2⟩:∃b:Bool,decide (0<(t.length:Int))=b∧decide (0<t.length)=b:=⟨_,rfl,by simp⟩;cases bt;all_goals (
  by_cases e2:f.length=0
  case neg=>
   have J:0<(f.length:Int):=by omega
   have K:¬ f=[]:=λh=>by simp [h] at e2
   have L:0<f.length:=by omega
   refine⟨_,?_,E⟩;rw [dQ (λq=>by rcases q.2.2.2.1 with q | q<;>omega)]
   rw [enter (sf:=f82) rfl rfl];simp [f82,aX l j,w9,c,D5,o,e0,g,e1,z1,z2,e2,L,J,K]
  rw [wo (e:=e) ⟨e0,.inl (by omega),.inr (.inr rfl),.inl e2,.inl (by omega)⟩ (by omega) (by omega) (by simp)];have E0:Ext m (ext m [o7 (r5 4 [] v U T)]):=E;obtain⟨M',a,q⟩:=Fv (cl:=136) (n:=n+2) (fu:=fu) r (wm (I (n+2) (by omega))) E0.ok (by rw [E0.lim];exact aP j E0.nx) e ⟨re,rsE E0 Y,Gt E0 h2⟩ (by omega) (by omega);have k:M'.get m.nx=some (o7 (r5 4 [] v U T)):=(q.old m.nx (by simp)).trans (by rw [A8 l];rfl);have E5:=E0.trans q;by_cases fe:V6 e=true
  case neg=>
   have C:V6 e=false:=by simpa using fe
   refine⟨M',?_,E5⟩;rw [C] at a ⊢;rw [enter (sf:=f82) rfl rfl];simp [f82,aX l j,w9,c,D5,o,e0,g,e1,z1,z2,e2,k,a]
  rw [fe] at a ⊢;have F:M'.lim<=M'.nx:=by rw [E5.lim];exact aP j E5.nx
  obtain⟨H,y,E2⟩:=qZ (cl:=135) (n:=n+2) (fu:=fu) r (jl A) E5.ok F t ⟨rt,rsE E5 h4,CB E5 h5⟩ (by omega) (by omega);have G:m.nx<M'.nx:=gq (by simp) (aP (J2 _) q.nx);have w:=(E2.old m.nx G).trans k;have E3:=E5.trans E2;by_cases ft:eO t=true
  case neg=>
   have D:eO t=false:=by simpa using ft
   refine⟨H,?_,E3⟩;rw [D] at y ⊢;rw [enter (sf:=f82) rfl rfl];simp [f82,aX l j,w9,c,D5,o,e0,g,e1,z1,z2,e2,k,w,a,y]
  rw [ft] at y ⊢;have u:H.lim<=H.nx:=by rw [E3.lim];exact aP j E3.nx
  obtain⟨m3,W,E4⟩:=qZ (cl:=135) (n:=n+2) (fu:=fu) r (jl A) E3.ok u f ⟨rf,rsE E3 h6,CB E3 h7⟩ (by omega) (by omega);refine⟨m3,?_,E3.trans E4⟩;rw [enter (sf:=f82) rfl rfl];simp [f82,aX l j,w9,c,D5,o,e0,g,e1,z1,z2,e2,k,w,a,y,W])
 ·
  by_cases e0:e.length=0;refine⟨_,?_,E⟩;rw [dQ (λq=>q.1 e0)];rw [enter (sf:=f82) rfl rfl];simp [f82,aX l j,w9,c,D5,o,e0];have B:0<e.length:=by omega
  have z:0<(e.length:Int):=by omega
  have x:¬ e=[]:=λh=>by simp [h] at e0
  have g:=And.intro B (And.intro z x);by_cases e1:1<(e.length:Int);all_goals (
  by_cases e3:t.length=0
  case neg=>
   have O:0<(t.length:Int):=by omega
   have P:¬ t=[]:=λh=>by simp [h] at e3
   have Q:0<t.length:=by omega
   refine⟨_,?_,E⟩;rw [dQ (λq=>by rcases q.2.2.1 with q | q | q<;>omega)]
   rw [enter (sf:=f82) rfl rfl];simp [f82,aX l j,w9,c,D5,o,e0,g,e1,e3,Q,O,P]
  by_cases e2:f.length=0
  case neg=>
   have J:0<(f.length:Int):=by omega
   have K:¬ f=[]:=λh=>by simp [h] at e2
   have L:0<f.length:=by omega
   refine⟨_,?_,E⟩;rw [dQ (λq=>by rcases q.2.2.2.1 with q | q<;>omega)]
   rw [enter (sf:=f82) rfl rfl];simp [f82,aX l j,w9,c,D5,o,e0,g,e1,e3,e2,L,J,K]
  rw [wo (e:=e) ⟨e0,.inr rfl,.inl e3,.inl e2,.inl (by omega)⟩ (by omega) (by omega) (by simp)];have E0:Ext m (ext m [o7 (r5 5 [] v U T)]):=E;obtain⟨M',a,q⟩:=Fv (cl:=136) (n:=n+2) (fu:=fu) r (wm (I (n+2) (by omega))) E0.ok (by rw [E0.lim];exact aP j E0.nx) e ⟨re,rsE E0 Y,Gt E0 h2⟩ (by omega) (by omega);have k:M'.get m.nx=some (o7 (r5 5 [] v U T)):=(q.old m.nx (by simp)).trans (by rw [A8 l];rfl);have E5:=E0.trans q;by_cases fe:V6 e=true
  case neg=>
   have C:V6 e=false:=by simpa using fe
   refine⟨M',?_,E5⟩;rw [C] at a ⊢;rw [enter (sf:=f82) rfl rfl];simp [f82,aX l j,w9,c,D5,o,e0,g,e1,e3,e2,k,a]
  rw [fe] at a ⊢;have F:M'.lim<=M'.nx:=by rw [E5.lim];exact aP j E5.nx
  obtain⟨H,y,E2⟩:=qZ (cl:=135) (n:=n+2) (fu:=fu) r (jl A) E5.ok F t ⟨rt,rsE E5 h4,CB E5 h5⟩ (by omega) (by omega);have G:m.nx<M'.nx:=gq (by simp) (aP (J2 _) q.nx);have w:=(E2.old m.nx G).trans k;have E3:=E5.trans E2;by_cases ft:eO t=true
  case neg=>
   have D:eO t=false:=by simpa using ft
   refine⟨H,?_,E3⟩;rw [D] at y ⊢;rw [enter (sf:=f82) rfl rfl];simp [f82,aX l j,w9,c,D5,o,e0,g,e1,e3,e2,k,w,a,y]
  rw [ft] at y ⊢;have u:H.lim<=H.nx:=by rw [E3.lim];exact aP j E3.nx
  obtain⟨m3,W,E4⟩:=qZ (cl:=135) (n:=n+2) (fu:=fu) r (jl A) E3.ok u f ⟨rf,rsE E3 h6,CB E3 h7⟩ (by omega) (by omega);refine⟨m3,?_,E3.trans E4⟩;rw [enter (sf:=f82) rfl rfl];simp [f82,aX l j,w9,c,D5,o,e0,g,e1,e3,e2,k,w,a,y,W])
 ·
  by_cases e0:e.length=0;refine⟨_,?_,E⟩;rw [dQ (λq=>q.1 e0)];rw [enter (sf:=f82) rfl rfl];simp [f82,aX l j,w9,c,D5,o,e0];have B:0<e.length:=by omega
  have z:0<(e.length:Int):=by omega
  have x:¬ e=[]:=λh=>by simp [h] at e0
  have g:=And.intro B (And.intro z x);by_cases e1:1<(e.length:Int);refine⟨_,?_,E⟩;rw [dQ (λq=>by rcases q.2.1 with q | q<;>omega)]
  rw [enter (sf:=f82) rfl rfl];simp [f82,aX l j,w9,c,D5,o,e0,g,e1];by_cases e3:t.length=0
  case neg=>
   have O:0<(t.length:Int):=by omega
   have P:¬ t=[]:=λh=>by simp [h] at e3
   have Q:0<t.length:=by omega
   refine⟨_,?_,E⟩;rw [dQ (λq=>by rcases q.2.2.1 with q | q | q<;>omega)]
   rw [enter (sf:=f82) rfl rfl];simp [f82,aX l j,w9,c,D5,o,e0,g,e1,e3,Q,O,P]
  by_cases e2:f.length=0
  case neg=>
   have J:0<(f.length:Int):=by omega
   have K:¬ f=[]:=λh=>by simp [h] at e2
   have L:0<f.length:=by omega
   refine⟨_,?_,E⟩;rw [dQ (λq=>by rcases q.2.2.2.1 with q | q<;>omega)]
   rw [enter (sf:=f82) rfl rfl];simp [f82,aX l j,w9,c,D5,o,e0,g,e1,e3,e2,L,J,K]
  obtain⟨X,rfl⟩:∃X,e=[X]:=agL.1 (by omega);obtain⟨kx,nx,sx,ax⟩:=X;obtain⟨ab,o1,a1,a2,a3,a4,a5⟩:=(Y.slice.ext E).at (i:=0) (by rw [S];simp);obtain⟨vx,ag,rx,_,_⟩:=D9.get h2 0 (by simp) (by rw [S];simp);rw [rx] at a5;have N:=a5 0 (by omega);have V:=a1;simp at V;rw [Y6] at N;have N:ld1 ((ext m [o7 (r5 6 [] v U T)]).get ab) o1=some (iV kx):=N;by_cases e4:kx=3
  case neg=>refine⟨_,?_,E⟩;rw [dQ (λq=>q.2.2.2.2.elim (λq=>by omega) (λq=>by simp [sK] at q;exact e4 q))];rw [enter (sf:=f82) rfl rfl];simp [f82,aX l j,w9,c,D5,o,e0,g,e1,e3,e2,e4,V,N]
  subst e4;rw [wo (e:=[(Ex.mk 3 nx sx ax)]) ⟨e0,.inl (by omega),.inl e3,.inl e2,.inr rfl⟩ (by omega) (by omega) (by simp)];have E0:Ext m (ext m [o7 (r5 6 [] v U T)]):=E;obtain⟨M',a,q⟩:=Fv (cl:=136) (n:=n+2) (fu:=fu) r (wm (I (n+2) (by omega))) E0.ok (by rw [E0.lim];exact aP j E0.nx) [(Ex.mk 3 nx sx ax)] ⟨re,rsE E0 Y,Gt E0 h2⟩ (by omega) (by omega);have k:M'.get m.nx=some (o7 (r5 6 [] v U T)):=(q.old m.nx (by simp)).trans (by rw [A8 l];rfl);have E5:=E0.trans q;by_cases fe:V6 [(Ex.mk 3 nx sx ax)]=true
  case neg=>
   have C:V6 [(Ex.mk 3 nx sx ax)]=false:=by simpa using fe
   refine⟨M',?_,E5⟩;rw [C] at a ⊢;rw [enter (sf:=f82) rfl rfl];simp [f82,aX l j,w9,c,D5,o,e3,e2,V,N,k,a]
  rw [fe] at a ⊢;have F:M'.lim<=M'.nx:=by rw [E5.lim];exact aP j E5.nx
  obtain⟨H,y,E2⟩:=qZ (cl:=135) (n:=n+2) (fu:=fu) r (jl A) E5.ok F t ⟨rt,rsE E5 h4,CB E5 h5⟩ (by omega) (by omega);have G:m.nx<M'.nx:=gq (by simp) (aP (J2 _) q.nx);have w:=(E2.old m.nx G).trans k;have E3:=E5.trans E2;by_cases ft:eO t=true
  case neg=>
   have D:eO t=false:=by simpa using ft
   refine⟨H,?_,E3⟩;rw [D] at y ⊢;rw [enter (sf:=f82) rfl rfl];simp [f82,aX l j,w9,c,D5,o,e3,e2,V,N,k,w,a,y]
  rw [ft] at y ⊢;have u:H.lim<=H.nx:=by rw [E3.lim];exact aP j E3.nx
  obtain⟨m3,W,E4⟩:=qZ (cl:=135) (n:=n+2) (fu:=fu) r (jl A) E3.ok u f ⟨rf,rsE E3 h6,CB E3 h7⟩ (by omega) (by omega);refine⟨m3,?_,E3.trans E4⟩;rw [enter (sf:=f82) rfl rfl];simp [f82,aX l j,w9,c,D5,o,e3,e2,V,N,k,w,a,y,W]
theorem aeK (fu:Nat)(a:20000<=fu):∀d n:Nat,4*d+2<=n->C70 n fu d:=by
 intro d;induction d with
 | zero=>intro n b m g s j i h l c;obtain⟨o,p,e,t,f⟩:=s;rw [wh] at c;omega
 | succ d ih=>intro n b;obtain⟨n,rfl⟩:∃k,n=k+6:=⟨n-6,by omega⟩;exact XE a (λn b=>RI fu a d n b) (ih (n+2) (by omega)) (by omega)
noncomputable section
def yC (k:Int):Int:=if k=18 then 0 else if k=17 then 1 else if k=5 then 2 else if 11<=k∧k<=16 then 3 else if k=9∨k=10 then 4 else if 6<=k∧k<=8 then 5 else if k=4 then 6 else 7
def Ui (k:Int):List UInt8:=if k=6 then [42] else if k=7 then [47] else if k=8 then [37] else if k=9 then [43] else if k=10 then [45] else if k=11 then [60] else if k=12 then [60,61] else if k=13 then [62] else if k=14 then [62,61] else if k=15 then [61,61] else if k=16 then [33,61] else if k=17 then [97,110,100] else if k=18 then [111,114] else []
def kL (least:Int)(p:Int×List UInt8):List UInt8:=if yC p.1<least then 40::(p.2 ++ [41]) else p.2
def xu (k n:Int)(s:List UInt8)(l:List (Int×List UInt8)):List UInt8:=
 if k=1 then Lib.itoa n else if k=2 then s else if k=3 then s++(40::(bK [44,32] (l.map (·.2)) ++ [41]))
 else if k=4 then 45::kL 6 (l.getD 0 (0,[])) else if k=5 then [110,111,116,32]++kL 2 (l.getD 0 (0,[]))
 else kL (if yC k=3 then 4 else yC k) (l.getD 0 (0,[]))++(32::(Ui k++(32::kL (yC k+1) (l.getD 1 (0,[])))))
mutual
def kS:Ex->List UInt8
 | .mk k n s a=>xu k n s (yH a)
def yH:List Ex->List (Int×List UInt8)
 | []=>[]
 | e::l=>(sK e,kS e)::yH l
end
theorem RJ:∀l:List Ex,yH l=l.map λe=>(sK e,kS e)
 | []=>rfl
 | e::l=>by rw [yH,RJ l];rfl
def kT (l:List Ex):List UInt8:=bK [44,32] (l.map kS)
theorem RL:∀(k n:Nat),n<10^(k+1)->(Lib.decDigits n).length<=k+1
 | 0,n,h=>by rw [Lib.decDigits,dif_pos (by simpa using h)];simp
 | k+1,n,h=>by rw [Lib.decDigits];split;simp;have:=RL k (n / 10) (by rw [ai8] at h;omega);simp;omega
theorem Qr {n:Int}(h0:0<=n)(a:n<=9007199254740992):(Lib.itoa n).length<=16:=by
 rw [Lib.itoa,if_neg (by omega)]
 exact RL 15 n.toNat (by have:(10:Nat)^(15+1)=10000000000000000:=by decide
                         omega)
theorem Bg (sep:List UInt8):∀l:List (List UInt8),(bK sep l).length<=(l.map λs=>s.length+sep.length).sum
 | []=>J2 _
 | [s]=>by show s.length<=_;simp
 | s::t::l=>by have:=Bg sep (t::l);show (V8 s (V8 sep (bK sep (t::l)))).length<=_;rw [Q9,Q9,Z8,Z8,Z6,aen];omega
theorem aaF {p:Prop} [Decidable p]{a b:List UInt8}{n:Nat}(c:a.length<=n)(hb:b.length<=n):(if p then a else b).length<=n:=by split<;>assumption
theorem RN (k:Int):(Ui k).length<=3:=by
 unfold Ui;repeat' apply aaF
 all_goals decide
theorem mG (m:Int)(p:Int×List UInt8):(kL m p).length<=p.2.length+2:=by unfold kL;split<;>simp
theorem Dg {s:List UInt8}(h:Kz s=true):s.length<=16:=by simp only [Kz,q8,decide_eq_true_eq] at h;omega
theorem NR:∀(l:List (Int×List UInt8)) (i:Nat),(l.getD i (0,[])).2.length<=(l.map λp=>p.2.length).sum
 | [],i=>by simp
 | p::l,0=>by simp
 | p::l,i+1=>by have:=NR l i;simp at this ⊢;omega
theorem Uj:∀(l:List (Int×List UInt8)),(l.getD 0 (0,[])).2.length+(l.getD 1 (0,[])).2.length<=(l.map λp=>p.2.length).sum
 | []=>by simp
 | [p]=>by simp
 | p::q::l=>by simp
mutual
theorem sM:∀e:Ex,iK e=true->(kS e).length+4<=40*iJ e
 | .mk k n s a,h=>by
  rw [kS,iJ];have hs:k=2∨k=3->s.length<=16:=λhk=>by simp only [iK,q8,decide_eq_true_eq] at h;rw [if_pos hk] at h;exact Dg h.1.2
  have hn:k=1->0<=n∧n<=9007199254740992:=λhk=>by simp only [iK,q8,decide_eq_true_eq] at h;rw [if_pos hk] at h;simpa using h.1.1.2
  have ha:V6 a=true:=by simp only [iK,q8] at h;exact h.2
  have hl:=KD a ha;have hj:((bK [44,32] ((yH a).map (·.2))).length)<=((yH a).map λp=>p.2.length).sum+2*a.length:=by
   have:=Bg [44,32] ((yH a).map (·.2));rw [ae2] at this;have e:∀l:List Ex,(List.map ((λs:List UInt8=>s.length + [(44:UInt8),32].length)∘λx:Int×List UInt8=>x.2) (yH l)).sum=((yH l).map λp=>p.2.length).sum+2*l.length:=by
    intro l;induction l with
    | nil=>rfl
    | cons x l ih=>rw [yH,Z6,aen,ih,Z6,aen,Y1];simp;omega
   rw [e] at this;exact this
  have g0:=NR (yH a) 0;have g1:=Uj (yH a);unfold xu;split;rename_i hk;have:=Qr (hn hk).1 (hn hk).2;omega
  split;rename_i hk;have:=hs (.inl hk);omega
  split;rename_i hk;have:=hs (.inr hk);simp only [Z8,Y1,ac2];omega
  split;have:=mG 6 ((yH a).getD 0 (0,[]));rw [Y1];omega;split;have:=mG 2 ((yH a).getD 0 (0,[]));simp only [Z8,Y1,ac2];omega;have p1:=mG (if yC k=3 then 4 else yC k) ((yH a).getD 0 (0,[]));have p2:=mG (yC k+1) ((yH a).getD 1 (0,[]));have p3:=RN k;simp only [Z8,Y1];omega
theorem KD:∀l:List Ex,V6 l=true->((yH l).map λp=>p.2.length).sum+4*l.length<=40*R5 l
 | [],_=>by simp [yH,R5]
 | e::l,h=>by rw [V6,q8] at h;have h1:=sM e h.1;have h2:=KD l h.2;rw [yH,R5,Z6,aen,Y1];show (kS e).length + _ + _<=_;omega
end
theorem Dh (l:List Ex)(h:V6 l=true):(kT l).length<=40*R5 l:=by
 have b:=KD l h;have a:=Bg [44,32] (l.map kS);have e:∀l:List Ex,((l.map kS).map λs=>s.length + [(44:UInt8),32].length).sum=((yH l).map λp=>p.2.length).sum+2*l.length:=by
  intro l;induction l with
  | nil=>rfl
  | cons x l ih=>rw [yH,Z6,Z6,aen,ih,Z6,aen,Y1];simp;omega
 rw [e] at a;show (bK [44,32] (l.map kS)).length<=_;omega
def bR (d:Nat):List UInt8:=List.replicate (2*d) 32
mutual
def Gu:ak->Nat->List UInt8
 | .mk k s e t f,d=>
  if k=1 then bR d++([108,101,116,32]++(s++([32,61,32]++(kT e ++ [59,10]))))
  else if k=2 then bR d++(s++([32,61,32]++(kT e ++ [59,10])))
  else if k=5 then bR d++([112,114,105,110,116,32]++(kT e ++ [59,10]))
  else if k=6 then bR d++(kT e ++ [59,10])
  else if k=4 then bR d++([119,104,105,108,101,32]++(kT e++([32,123,10]++(bU t (d+1)++(bR d ++ [125,10])))))
  else bR d++([105,102,32]++(kT e++([32,123,10]++(bU t (d+1)++((if 0<f.length then bR d++([125,32,101,108,115,101,32,123,10]++bU f (d+1)) else [])++(bR d ++ [125,10]))))))
def bU:List ak->Nat->List UInt8
 | [],_=>[]
 | s::l,d=>Gu s d++bU l d
end
mutual
theorem aaG:∀(s:ak) (d:Nat),Bf s=true->d+wh s<=100->(Gu s d).length<=700*stP s
 | .mk k s e t f,d,h,hd=>by
  have h':=h;simp only [Bf,q8,decide_eq_true_eq] at h;obtain⟨⟨⟨⟨⟨⟨⟨⟨⟨⟨a1,a2⟩,a3⟩,a4⟩,a5⟩,a6⟩,a7⟩,a8⟩,a9⟩,b1⟩,b2⟩:=h;rw [wh] at hd;have h1:=Dh e a9;have h2:=oW t (d+1) b1 (by omega);have h3:=oW f (d+1) b2 (by omega);have hi:(bR d).length<=200:=by rw [bR,List.length_replicate];omega
  have hs:s.length<=16:=by
   split at a3;exact Dg a3;have:s=[]:=by simpa using a3
   simp [this]
  rw [Gu,stP];repeat' split
  all_goals simp only [Z8,Y1,ac2]
  all_goals omega
theorem oW:∀(l:List ak) (d:Nat),eO l=true->d+aR l<=100->(bU l d).length<=700*Z0 l
 | [],d,_,_=>by simp [bU]
 | s::l,d,h,hd=>by rw [eO,q8] at h;rw [aR] at hd;have h1:=aaG s d h.1 (by omega);have h2:=oW l d h.2 (by omega);rw [bU,Z0,Z8];omega
end
end
def UK (l:List ak):Int:=if (yA l).1<0 then 2 else if eO l=true then 0 else 1
theorem Qs {l:List ak}(h:UK l=0):Z0 l<=500∧aR l<=20∧eO l=true:=by
 unfold UK yA at h;by_cases c:Z0 l<=500∧aR l<=20;rw [if_pos c] at h;have:¬ ((Z0 l:Int),(aR l:Int)).1<0:=by simp
 rw [if_neg this] at h;by_cases f:eO l=true;exact⟨c.1,c.2,f⟩;rw [if_neg f] at h;omega;rw [if_neg c] at h;simp at h
theorem XF {m:Mem}(q:m.Ok)(e:m.lim<=m.nx){v:d9}{l:List ak}(h:U2 m (λ_=>True) l v)(hp:Z0 l<=10000)(p:aR l<=26)(n fu:Nat)(s:110<=n)(d:20000<=fu):
  ∃m',j6 KW fu (n+1) (.func 45) [v] m=some [⟨iV (UK l),m'⟩]∧Ext m m':=by
 obtain⟨n,rfl⟩:∃k,n=k+60:=⟨n-60,by omega⟩;obtain⟨g,j,E1⟩:=aeA q e h hp (n+10) fu d;obtain⟨r,o,E2⟩:=qZ (cl:=81) (n:=n+57) (fu:=fu) d (aeJ (aeK fu d 26 (n+57) (by omega))) E1.ok (by rw [E1.lim];exact aP e E1.nx) l (U2.ext h E1) hp p;have b:j6 KW fu (n+60) (.func 79) [v] m=_:=j;have a:j6 KW fu (n+60) (.func 80) [v,.func (.func 81) [] []] g=_:=o;unfold UK;by_cases c:(yA l).1<0;refine⟨g,?_,E1⟩;rw [if_pos c,enter (sf:=f45) rfl rfl];simp [f45,b,c];refine⟨r,?_,E1.trans E2⟩;rw [if_neg c,enter (sf:=f45) rfl rfl];by_cases f:eO l=true;rw [if_pos f];rw [f] at a;simp [f45,b,c,a];have i:eO l=false:=by simpa using f
 rw [if_neg f];rw [i] at a;simp [f45,b,c,a]
theorem RO (k:Int)(n fu:Nat)(m:Mem):j6 KW fu (n+1) (.func 229) [iV k] m=some [⟨iV (yC k),m⟩]:=by
 rw [enter (sf:=f229) rfl rfl];by_cases h:4<=k∧k<=18;have u:k=4∨k=5∨k=6∨k=7∨k=8∨k=9∨k=10∨k=11∨k=12∨k=13∨k=14∨k=15∨k=16∨k=17∨k=18:=by omega
 rcases u with rfl | rfl | rfl | rfl | rfl | rfl | rfl | rfl | rfl | rfl | rfl | rfl | rfl | rfl | rfl<;>rfl
 have e:yC k=7:=by unfold yC;rw [if_neg (by omega),if_neg (by omega),if_neg (by omega),if_neg (by omega),if_neg (by omega),if_neg (by omega),if_neg (by omega)]
 have l:¬ k=18:=by omega
 have j:¬ k=17:=by omega
 have p:¬ k=5:=by omega
 have b:¬ k=11:=by omega
 have c:¬ k=12:=by omega
 have d:¬ k=13:=by omega
 have f:¬ k=14:=by omega
 have g:¬ k=15:=by omega
 have i:¬ k=16:=by omega
 have t:¬ k=9:=by omega
 have a:¬ k=10:=by omega
 have q:¬ k=6:=by omega
 have r:¬ k=7:=by omega
 have s:¬ k=8:=by omega
 have o:¬ k=4:=by omega
 rw [e];simp [f229,l,j,p,b,c,d,f,g,i,t,a,q,r,s,o]
theorem Qt (k:Int):0<=yC k∧yC k<=7:=by
 unfold yC;repeat' split
 all_goals omega
theorem aaH {m:Mem}(b:m.Ok)(a:m.lim<=m.nx)(n fu:Nat):j6 KW fu (n+1) (.func 231) [] m=some [⟨.map m.nx,m.new (.map Y9)⟩]:=by exact Nn (K:=KW) (f:=231) (by show some ({f231 with pure:=false}:T9)=some zL;rfl) (λ_ _=>rfl) fu n m b a
noncomputable def NS (b:Option O6)(f:FJ)(n:Nat)(z:d9)(ok:Bool)(k:d9):Option d9:=Ci b λes=>ob (P7 f n k es) λr=>found ok z r
theorem ah (f:FJ)(n:Nat)(z:d9)(ok:Bool)(mp k:OF)(ls:List d9)(env:T d9)(m:Mem):yM f n z ok mp k ls env m=tY (mp ls env) (ob (P7 f n (k ls env) []) λr=>found ok z r) λid=>NS (m.get id) f n z ok (k ls env):=rfl
theorem XG {k:Int}(h:6<=k)(h':k<=18):NS (some (.map Y9)) K8 1 (.str []) false (iV k)=some (.str (Ui k)):=by
 have a:k=6∨k=7∨k=8∨k=9∨k=10∨k=11∨k=12∨k=13∨k=14∨k=15∨k=16∨k=17∨k=18:=by omega
 rcases a with rfl | rfl | rfl | rfl | rfl | rfl | rfl | rfl | rfl | rfl | rfl | rfl | rfl<;>rfl
theorem XH {m:Mem}{S:Nat->Prop}{e:Ex}{row:List d9}(h:au m S e row):aB 100 (.agg row) (.agg row)=true:=by obtain⟨k,n,s,a⟩:=e;obtain⟨v,b,rfl,c,_⟩:=h;have d:aB 99 v v=true:=eH c.slice 98;rw [Ib,jM,vU 98,jM,vU 98,jM,oV 98,jM,d,zI];rfl
def aaI (n fu d:Nat):Prop:=∀(m:Mem) (row:List d9) (e:Ex) (least:Int),m.Ok->m.lim<=m.nx->13<=m.nx->au m (λ_=>True) e row->iK e=true->iJ e<=10000->gQ e<=d->
 ∃m',j6 KW fu n (.func 182) [.agg row,iV least] m=some [⟨.str (kL least (sK e,kS e)),m'⟩]∧Ext m m'
def C73 (n fu d:Nat):Prop:=∀(m:Mem) (v:d9) (l:List Ex),m.Ok->m.lim<=m.nx->13<=m.nx->jg m (λ_=>True) l v->V6 l=true->R5 l<=10000->U5 l<=d->
 ∃m',j6 KW fu n (.func 91) [v] m=some [⟨.str (kT l),m'⟩]∧Ext m m'
theorem NT:∀{l:List Ex} (h:V6 l=true) (i:Nat) (hi:i<l.length),iK l[i]=true
 | e::l,h,0,hi=>by rw [V6,q8] at h;exact h.1
 | e::l,h,i+1,hi=>by rw [V6,q8] at h;exact NT h.2 i (by simpa using hi)
theorem bs1 (z:List d9)(ps:List (Nat×Nat×OF))(ls:List d9)(env:T d9)(a:Nat)(h:z.length=1):U6 1 1 z ps ls env a=ob (lay ps ls env z) λcells=>if cells.length=1 then some (.slice a 0 1 1,some (o7 cells)) else none:=kJ 1 z ps ls env a h
theorem aaJ {n fu d:Nat}(u:aaI n fu d){m:Mem}(hm:m.Ok)(Q:m.lim<=m.nx)(hb:13<=m.nx){v:d9}{rows:List (List d9)}(a:List Ex)(L:jf m (λ_=>True) 4 v rows)(P:D9 m (λ_=>True) a rows)(hf:V6 a=true)(a8:R5 a<=10000)(hd:U5 a<=d):
  ∀(j i:Nat),i+j=a.length->∀(c out x6:d9) (M:Mem) (N:Nat),Ext m M->tL m.nx M out ((a.take i).map kS)->j+1<=N->
  ∃c' out' x6' M',I4 (λenv m k=>Nz (j6 KW fu n) fu none env m k) N (pJ v (iV (i:Int)) (iV (a.length:Int)) c v out x6 (.str [])) M []=some [⟨.exit 0,(pJ v (iV (a.length:Int)) (iV (a.length:Int)) c' v out' x6' (.str [])),M',[],none⟩]∧Ext m M'∧tL m.nx M' out' (a.map kS):=by
 have o:=D9.len P;have w:=L.slice.len;rw [o] at w;have a6:=Q8 a;intro j;induction j with
 | zero=>
  intro i z c out x6 M N E O Z;obtain⟨N,rfl⟩:∃k,N=k+1:=⟨N-1,by omega⟩;obtain rfl:i=a.length:=by omega
  rw [agq] at O;refine⟨.bool false,out,x6,M,?_,E,O⟩;rw [p9];simp [Nz]
 | succ j ih=>
  intro i z c out x6 M N E O Z;obtain⟨N,rfl⟩:∃k,N=k+1:=⟨N-1,by omega⟩;have b:i<a.length:=by omega
  have f:i<rows.length:=by omega
  have x:(i:Int)<(a.length:Int):=by omega
  have A:=E.ok;have l:M.lim<=M.nx:=by rw [E.lim];exact aP Q E.nx
  obtain⟨a9,o1,S,a2,a3,U,a5⟩:=(L.slice.ext E).at f;have g:=D9.get P i b f;have F:=g.row;have t:=U 0 4 (by omega) (by omega);rw [U9,W9 (by omega),Y6] at t;have a7:=jh a i b;have a0:=mF a i b;have B:=NT hf i b;have s:au M (λ_=>True) a[i] rows[i]:=Gs E g;have G:(a.take i).map kS ++ [kS a[i]]=(a.take (i+1)).map kS:=by rw [aa1 b,abK];rfl
  have H:((a.take i).map kS).length=i:=by simp;omega
  generalize hX:a[i]=X at *;generalize hR:rows[i]=R at *;have E1:=G7 A [o7 R];obtain⟨h,K,E2⟩:=u (ext M [o7 R]) R X 0 E1.ok (by rw [E1.lim];exact aP l E1.nx) (aP hb (aP E.nx E1.nx)) (Gs E1 s) B (by omega) (by omega);have D:kL 0 (sK X,kS X)=kS X:=by unfold kL;rw [if_neg (by have:=Qt (sK X);simp only;omega)]
  rw [D] at K;have r:=E2.ok;have E12:=E1.trans E2;have C:h.lim<=h.nx:=by rw [E12.lim];exact aP l E12.nx
  have E3:=G7 r [o7 [.str (kS X)]];have Eall:=E.trans (E12.trans E3);have hx:lenOf (.slice h.nx 0 1 1)=some 1:=rfl;have hr:eY (ext h [o7 [.str (kS X)]]) 1 1 (.slice h.nx 0 1 1)=some [.str (kS X)]:=by show Q6 ((ext h [o7 [.str (kS X)]]).get h.nx) (λrs k' rows=>Q7 rs k' rows 1 0)=_;rw [A8 r];show Q6 (some (O6.cells 1 1 (T.ofList [[d9.str (kS X)]]))) _=_;rfl
  obtain⟨v5,M5,W,O5,F5⟩:=amH (lo:=m.nx) (bytes:=16) E3.ok (by rw [Eall.lim];exact Q) Eall.nx ((O.ext E12).ext E3) hx hr (by rw [H];omega) ⟨by omega,by omega⟩;have po:=λ{β:Type} (p:d9->β) q=>O5.mq p q;rw [G] at O5;have EM5:Ext m M5:=⟨F5.ok,aP Eall.nx F5.nx,F5.lim.trans Eall.lim,λi z=>(F5.old i z (by omega)).trans (Eall.old i z)⟩;obtain⟨c',out',x6',M',Y,q1,q2⟩:=ih (i+1) (by omega) tt v5 (.ptr M.nx 0) M5 N EM5 O5 (by omega);refine⟨c',out',x6',M',?_,q1,q2⟩;obtain⟨x1,x2,x3,x4,x5,x6⟩:=CF A l;obtain⟨y1,y2,y3,y4,y5,y6⟩:=CF r C;have V:h.get M.nx=some (o7 R):=by rw [E2.old _ (by simp),A8 A];rfl
  obtain⟨e,y⟩:=F;have J:Go.AM.uW (some (o7 (r4 0 0 [] nS))) 0 R=some (o7 R):=by rw [gZ (by simp [e]) (by simp)];simp [e]
  have I:CY (some (o7 R)) 0 4=some (.agg R):=by rw [fP (by omega) (by omega),U9,W9 (by omega)]
  rw [p9,← Y];simp [Nz,H8,I8,x1,x2,x3,x4,x5,x6,y1,y2,y3,y4,y5,y6,w9,S,t,b,x,e,y,J,I,K,V,W,po,bs1,P9 (i:=i) (by omega)]
theorem Uk (l:List Ex)(h:V6 l=true)(hp:R5 l<=10000):(bK [44,32] (l.map kS)).length<1000000:=by have:=Dh l h;unfold kT at this;omega
theorem Qu {n fu d:Nat}(x:20000<=fu)(e:aaI (n+1) fu d):C73 (n+2) fu d:=by intro m v a p y l h o q w;obtain⟨s,i,j⟩:=h;have c:=D9.len j;have b:=i.slice.len;rw [c] at b;have z:=Q8 a;obtain⟨D,r,C,M',g,A,B⟩:=aaJ e p y l a i j o q w a.length 0 (by omega) .undef nS .undef m fu (Ext.refl p) (.inl ⟨rfl,rfl⟩) (by omega);have t:I4 (λf m k=>Nz (j6 KW fu (n+1)) fu none f m k) fu (pJ v (iV 0) (iV (a.length:Int)) .undef v nS .undef (.str [])) m []=_:=g;have u:=aas (lo:=m.nx) l B [44,32] (by simp;omega) (Uk a o q) n fu;refine⟨M',?_,A⟩;rw [enter (sf:=f91) rfl rfl];simp [f91,b,t,u,kT]
theorem Ul {k n:Int}{s:List UInt8}{a:List Ex}(h:iK (.mk k n s a)=true):bT k≠-2∧(bT k<0∨(a.length:Int)=bT k)∧(k=1->0<=n∧n<=9007199254740992)∧(k=2∨k=3->Kz s=true)∧V6 a=true:=by simp only [iK,q8,aci,decide_eq_true_eq] at h;obtain⟨⟨⟨⟨e,f⟩,c⟩,d⟩,g⟩:=h;refine⟨e,f,λb=>?_,λb=>?_,g⟩;rw [if_pos b] at c;simpa using c;rw [if_pos b] at d;exact d
theorem Qv {k:Int}(h:bT k≠-2):k=1∨k=2∨k=3∨k=4∨k=5∨(6<=k∧k<=18):=by unfold bT at h;by_cases h3:k=3;omega;by_cases h1:k=1∨k=2;omega;by_cases h4:k=4∨k=5;omega;by_cases h6:6<=k∧k<=18;omega;rw [if_neg h3,if_neg h1,if_neg h4,if_neg h6] at h;exact absurd rfl h
theorem ajt {n fu d:Nat}(ak:20000<=fu)(a9:C73 (n+3) fu d)(z:aaI (n+3) fu d){m:Mem}{row:List d9}{e:Ex}(least:Int)(H:m.Ok)(G:m.lim<=m.nx)(hb:13<=m.nx)(h:au m (λ_=>True) e row)(hf:iK e=true)(hp:iJ e<=10000)(hd:gQ e<=d+1)(ac:¬ yC (sK e)<least):
  ∃m',j6 KW fu (n+4) (.func 182) [.agg row,iV least] m=some [⟨.str (kS e),m'⟩]∧Ext m m':=by
 obtain⟨c,l,g,a⟩:=e;obtain⟨v,x,rfl,F,S⟩:=h;have R:=F.slice.w9;have N:=F.slice.cells;have b:=D9.len S;have a0:=F.slice.len;rw [b] at a0;have am:=Q8 a;have hL:=sM _ hf;obtain⟨p1,p2,p3,p4,A⟩:=Ul hf;rw [iJ] at hp hL;rw [gQ] at hd;have E:=G7 H [o7 (r4 c l g v)];have p:=λm=>RO c (n+2) fu m;have t:¬ yC c<least:=ac;have w:(ext m [o7 (r4 c l g v)]).lim<=(ext m [o7 (r4 c l g v)]).nx:=by rw [E.lim];exact aP G E.nx
 have J:13<=(ext m [o7 (r4 c l g v)]).nx:=aP hb E.nx;rw [kS] at hL ⊢;have ss:∀s:List UInt8,aB 100 (.str s) (.str s)=true:=λs=>oV 99 s;have sv:aB 100 v v=true:=eH F.slice 99;rcases Qv p1 with rfl | rfl | rfl | rfl | rfl | ⟨hk6,hk18⟩;obtain⟨q1,q2⟩:=p3 rfl;have gi:=aar l q1 (by omega) (n+2) fu (ext m [o7 (r4 1 l g v)]);refine⟨_,?_,E⟩;rw [show xu 1 l g (yH a)=Lib.itoa l from rfl];rw [enter (sf:=f182) rfl rfl];simp [f182,aX H G,w9,R,N,p,ah,t,gi];refine⟨_,?_,E⟩;rw [show xu 2 l g (yH a)=g from rfl];rw [enter (sf:=f182) rfl rfl];simp [f182,aX H G,w9,R,N,p,ah,t];obtain⟨M1,a8,E1⟩:=a9 (ext m [o7 (r4 3 l g v)]) v a E.ok w J (jg.ext ⟨x,F,S⟩ E) A (by omega) (by omega);have aa:M1.get m.nx=some (o7 (r4 3 l g v)):=(E1.old m.nx (by simp)).trans (by rw [A8 H];rfl);have hJ:=Dh a A;have hs:=Dg (p4 (.inr rfl));have K:P6 g [40]=some (.str (g ++ [40])):=L8 (by simp;omega);have t2:P6 (g ++ [40]) (kT a)=some (.str (g++40::kT a)):=by rw [L8 (by simp;omega)];simp
 have t3:P6 (g++40::kT a) [41]=some (.str (g++40::(kT a ++ [41]))):=by rw [L8 (by simp;omega)];simp
 have O:xu 3 l g (yH a)=g++40::(kT a ++ [41]):=by show g++(40::(bK [44,32] ((yH a).map (·.2)) ++ [41]))=_;rw [RJ,ae2];simp [kT];rfl
 refine⟨M1,?_,E.trans E1⟩;rw [O];rw [enter (sf:=f182) rfl rfl];simp [f182,aX H G,w9,R,N,p,ah,t,a8,aa,ss,K,t2,t3]
 have y:a.length=1:=by have:bT 4=1:=rfl
                       omega
 obtain⟨X,rfl⟩:=agL.1 y;obtain⟨D,o1,T,a2,a3,U,a5⟩:=(F.slice.ext E).at (i:=0) (by rw [b];simp);have u:=T;simp at u;have o:=D9.get S 0 (by simp) (by rw [b];simp);have a6:=o.row;have j:=U 0 4 (by omega) (by omega);rw [U9,W9 (by omega),Y6] at j;generalize x[0]'(by rw [b];simp)=R0 at *;rw [R5,R5] at hp;rw [U5,U5] at hd;rw [V6,q8] at A;have W:au m (λ_=>True) X R0:=o;have j:CY ((ext m [o7 (r4 4 l g v)]).get D) o1 4=some (.agg R0):=j;obtain⟨M1,B,E1⟩:=z (ext m [o7 (r4 4 l g v)]) R0 X 6 E.ok w J (Gs E W) A.1 (by omega) (by omega);have Z:=sM X A.1;have Q:=mG 6 (sK X,kS X);have K:P6 [45] (kL 6 (sK X,kS X))=some (.str (45::kL 6 (sK X,kS X))):=L8 (by simp only [Y1,ac2];simp only at Q;omega);have O:xu 4 l g (yH [X])=45::kL 6 (sK X,kS X):=rfl;refine⟨M1,?_,E.trans E1⟩;rw [O];rw [enter (sf:=f182) rfl rfl];simp [f182,aX H G,w9,R,N,p,ah,t,u,j,B,K]
 have y:a.length=1:=by have:bT 5=1:=rfl
                       omega
 obtain⟨X,rfl⟩:=agL.1 y;obtain⟨D,o1,T,a2,a3,U,a5⟩:=(F.slice.ext E).at (i:=0) (by rw [b];simp);have u:=T;simp at u;have o:=D9.get S 0 (by simp) (by rw [b];simp);have a6:=o.row;have j:=U 0 4 (by omega) (by omega);rw [U9,W9 (by omega),Y6] at j;generalize x[0]'(by rw [b];simp)=R0 at *;rw [R5,R5] at hp;rw [U5,U5] at hd;rw [V6,q8] at A;have W:au m (λ_=>True) X R0:=o;have j:CY ((ext m [o7 (r4 5 l g v)]).get D) o1 4=some (.agg R0):=j;obtain⟨M1,B,E1⟩:=z (ext m [o7 (r4 5 l g v)]) R0 X 2 E.ok w J (Gs E W) A.1 (by omega) (by omega);have Z:=sM X A.1;have Q:=mG 2 (sK X,kS X);have K:P6 [110,111,116,32] (kL 2 (sK X,kS X))=some (.str ([110,111,116,32]++kL 2 (sK X,kS X))):=L8 (by simp only [Y1,ac2];simp only at Q;omega);have O:xu 5 l g (yH [X])=[110,111,116,32]++kL 2 (sK X,kS X):=rfl;refine⟨M1,?_,E.trans E1⟩;rw [O];rw [enter (sf:=f182) rfl rfl];simp [f182,aX H G,w9,R,N,p,ah,t,u,j,B,K];have P:a.length=2:=by
  have:bT c=2:=by unfold bT;rw [if_neg (by omega),if_neg (by omega),if_neg (by omega),if_pos ⟨hk6,hk18⟩]
  omega
 obtain⟨X,Y,rfl⟩:∃X Y,a=[X,Y]:=by
  match a,P with
  | [X,Y],_=>exact⟨X,Y,rfl⟩
 have k1:¬ c=1:=by omega
 have k2:¬ c=2:=by omega
 have k3:¬ c=3:=by omega
 have k4:¬ c=4:=by omega
 have k5:¬ c=5:=by omega
 have ai:=Qt c;obtain⟨D,o1,T,a2,a3,U,a5⟩:=(F.slice.ext E).at (i:=0) (by rw [b];simp);have u:=T;simp at u;have o:=D9.get S 0 (by simp) (by rw [b];simp);have a6:=o.row;have j:=U 0 4 (by omega) (by omega);rw [U9,W9 (by omega),Y6] at j;obtain⟨a7,o2,b1,b2,b3,b4,b5⟩:=(F.slice.ext E).at (i:=1) (by rw [b];simp);have C:=D9.get S 1 (by simp) (by rw [b];simp);have aj:=C.row;generalize x[0]'(by rw [b];simp)=R0 at *;rw [R5,R5,R5] at hp;rw [U5,U5,U5] at hd;rw [V6,V6,q8,q8] at A;have W:au m (λ_=>True) X R0:=o;have j:CY ((ext m [o7 (r4 c l g v)]).get D) o1 4=some (.agg R0):=j;have af:∀f:Int,(if yC c=3 then 4 else yC c)=f->∃m',j6 KW fu (n+4) (.func 182) [.agg (r4 c l g v),iV least] m=some [⟨.str (xu c l g (yH [X,Y])),m'⟩]∧Ext m m':=by
  intro f r;obtain⟨M1,g1,E1⟩:=z (ext m [o7 (r4 c l g v)]) R0 X f E.ok w J (Gs E W) A.1 (by omega) (by omega);have E1':=E.trans E1;have ab:M1.lim<=M1.nx:=by rw [E1'.lim];exact aP G E1'.nx
  have g2:=aaH E1.ok ab (n+2) fu;have E2:=G7 E1.ok [.map Y9];have E2':=E1'.trans E2;obtain⟨jd,oo,c1,c2,c3,c4,c5⟩:=(F.slice.ext E2').at (i:=1) (by rw [b];simp);have L:=c1;simp at L;have M:=c4 0 4 (by omega) (by omega);rw [U9,W9 (by omega),Y6] at M;rw [b1] at c1;cases c1;have I:=b4 0 4 (by omega) (by omega);rw [U9,W9 (by omega),Y6] at I;generalize x[1]'(by rw [b];simp)=R1 at *;have hY:au m (λ_=>True) Y R1:=C;have V:CY (M1.get a7) o2 4=some (.agg R1):=by rw [E1.old a7 b2];exact I
  obtain⟨M3,g3,E3⟩:=z (ext M1 [.map Y9]) R1 Y (yC c+1) E2.ok (by rw [E2'.lim];exact aP G E2'.nx) (aP hb E2'.nx) (Gs E2' hY) A.2.1 (by omega) (by omega);have E3':=E2'.trans E3;have r0:(ext m [o7 (r4 c l g v)]).get m.nx=some (o7 (r4 c l g v)):=by rw [A8 H];rfl
  have r1:M1.get m.nx=some (o7 (r4 c l g v)):=(E1.old m.nx (by simp)).trans r0;have r2:(ext M1 [.map Y9]).get m.nx=some (o7 (r4 c l g v)):=(E2.old m.nx (gq (by simp) E1.nx)).trans r1;have r3:M3.get m.nx=some (o7 (r4 c l g v)):=(E3.old m.nx (gq (gq (by simp) E1.nx) E2.nx)).trans r2;have u2:(ext M1 [.map Y9]).get M1.nx=some (.map Y9):=by rw [A8 E1.ok];rfl
  have u3:M3.get M1.nx=some (.map Y9):=(E3.old M1.nx (by simp)).trans u2;have lk:=XG hk6 hk18;have sy:aB 100 (.agg R1) (.agg R1)=true:=XH hY;have si:∀(k:IntKind) (i:Int),aB 100 (.int k i) (.int k i)=true:=λk i=>vU 99 k i;have Z:=sM X A.1;have al:=sM Y A.2.1;have ad:=mG f (sK X,kS X);have ae:=mG (yC c+1) (sK Y,kS Y);have an:=RN c;simp only at ad ae;have K:P6 (kL f (sK X,kS X)) [32]=some (.str (kL f (sK X,kS X) ++ [32])):=L8 (by simp;omega);have t2:P6 (kL f (sK X,kS X) ++ [32]) (Ui c)=some (.str (kL f (sK X,kS X)++32::Ui c)):=by rw [L8 (by simp;omega)];simp
  have t3:P6 (kL f (sK X,kS X)++32::Ui c) [32]=some (.str (kL f (sK X,kS X)++32::(Ui c ++ [32]))):=by rw [L8 (by simp;omega)];simp
  have t4:P6 (kL f (sK X,kS X)++32::(Ui c ++ [32])) (kL (yC c+1) (sK Y,kS Y))=some (.str (kL f (sK X,kS X)++32::(Ui c++32::kL (yC c+1) (sK Y,kS Y)))):=by rw [L8 (by simp;omega)];simp
  have w1:mK (yC c+1)=yC c+1:=O0 (by omega) (by omega);have O:xu c l g (yH [X,Y])=kL f (sK X,kS X)++32::(Ui c++32::kL (yC c+1) (sK Y,kS Y)):=by unfold xu;rw [if_neg k1,if_neg k2,if_neg k3,if_neg k4,if_neg k5,r];simp [yH]
  refine⟨M3,?_,E3'⟩;rw [O];generalize yC c=q at *;by_cases h3:q=3;rw [if_pos h3] at r;subst h3;subst r;have ag:mK 4=4:=O0 (by omega) (by omega);rw [show (3:Int)+1=4 from rfl] at *;rw [enter (sf:=f182) rfl rfl];simp [f182,aX H G,w9,R,N,p,ah,t,k1,k2,k3,k4,k5,ag,u,j,L,V,I,M,r0,r1,r2,r3,u2,u3,lk,sy,si,ss,sv,g1,g2,g3,K,t2,t3,t4];rw [if_neg h3] at r;subst r;rw [enter (sf:=f182) rfl rfl];simp [f182,aX H G,w9,R,N,p,ah,t,k1,k2,k3,k4,k5,h3,w1,u,j,L,V,I,M,r0,r1,r2,r3,u2,u3,lk,sy,si,ss,sv,g1,g2,g3,K,t2,t3,t4]
 exact af _ rfl
theorem aaK (fu:Nat)(c:20000<=fu):∀d n:Nat,3*d+2<=n->aaI n fu d:=by
 intro d;induction d with
 | zero=>intro n C m y e least s r u h q w p;obtain⟨b,f,g,a⟩:=e;rw [gQ] at p;omega
 | succ d ih=>
  intro n C m y e least s r u h q w p;obtain⟨n,rfl⟩:∃k,n=k+5:=⟨n-5,by omega⟩;by_cases hlv:yC (sK e)<least
  case neg=>have t:kL least (sK e,kS e)=kS e:=if_neg hlv;rw [t];exact ajt (n:=n+1) c (Qu c (ih (n+3) (by omega))) (ih (n+4) (by omega)) least s r u h q w p hlv
  have t:kL least (sK e,kS e)=40::(kS e ++ [41]):=if_pos hlv;rw [t];have I:=sM e q;have J:=h.row;have o:=h;obtain⟨b,f,g,a⟩:=e;obtain⟨v,A,rfl,z,H⟩:=h;have D:=z.slice.w9;have B:=z.slice.cells;have E:=G7 s [o7 (r4 b f g v)];obtain⟨M1,i,E1⟩:=ajt (n:=n) c (Qu c (ih (n+2) (by omega))) (ih (n+3) (by omega)) 0 E.ok (by rw [E.lim];exact aP r E.nx) (aP u E.nx) (Gs E o) q w p (by have:=Qt (sK (.mk b f g a));omega);have j:=λm=>RO b (n+3) fu m;have l:yC b<least:=hlv;have F:P6 [40] (kS (.mk b f g a))=some (.str (40::kS (.mk b f g a))):=L8 (by simp only [Y1,ac2];omega);have G:P6 (40::kS (.mk b f g a)) [41]=some (.str (40::(kS (.mk b f g a) ++ [41]))):=L8 (by simp only [Y1,ac2];omega);generalize kS (.mk b f g a)=x at *;refine⟨M1,?_,E.trans E1⟩;rw [enter (sf:=f182) rfl rfl];simp [f182,aX s r,w9,D,B,j,l,i,F,G]
theorem aeL (fu:Nat)(a:20000<=fu)(d n:Nat)(h:3*d+3<=n):C73 n fu d:=by obtain⟨n,rfl⟩:∃k,n=k+2:=⟨n-2,by omega⟩;exact Qu a (aaK fu a d (n+1) (by omega))
theorem aju {n:Nat}(h:n<=100000000):big n 1 1=true:=by show bi (Nat.ble ((2*n+2048)*1) 281474976710656) (bi true true false) false=true;rw [show Nat.ble ((2*n+2048)*1) 281474976710656=true from Y3 (by omega)];rfl
noncomputable def tU (v:d9)(m:Mem):Option d9:=match v with
 | .nilPtr=>some .nilPtr
 | .ptr id off=>Q6 (m.get id) λrs n _=>bi (Nat.blt off (Nat.mul n rs)) (some (.ptr id off)) none
 | _=>none
theorem Um (x:OF)(ls:List d9)(env:T d9)(m:Mem):rG x ls env m=tU (x ls env) m:=rfl
noncomputable def fU (oks:List (Nat×Nat))(v:d9)(m:Mem):Option d9:=match v with
 | .nilPtr=>some .nilPtr
 | .ptr id off=>Q6 (m.get id) λ_ n rows=>bi (Nat.beq n 1) (ob (Dm rows) λty=>bi (Ve ty off oks) (some (.ptr id off)) none) none
 | _=>none
theorem NU (a:List (Nat×Nat))(x:OF)(ls:List d9)(env:T d9)(m:Mem):jS a x ls env m=fU a (x ls env) m:=rfl
noncomputable def sD (v:d9):Option d9:=qD v (some .nilPtr) (λid off _ cap=>bi (Nat.blt 0 cap) (some (.ptr id off)) none) (λid off len _=>bi (Nat.blt 0 len) (some (.ptr id off)) none)
theorem Fw (x:OF)(ls:List d9)(env:T d9)(m:Mem):CK x ls env m=sD (x ls env):=rfl
noncomputable def eU (ty:Nat)(p n:d9)(m:Mem):eu:=Za n λk=>match p with
 | .nilPtr=>bi (Nat.beq k 0) (one (.str []) m) none
 | .ptr id off=>bi (Nat.beq off 0) (bi (Nat.ble m.lim id) (match m.get id with
  | some (.buf ty' s)=>bi (Nat.beq ty ty') (bi (Nat.beq k (len' s)) (bi (Nat.ble k 9223372036854775807) (one (.str s) (m.set id .dead)) none) none) none
  | _=>none) none) none
 | _=>none
theorem NV (a:Nat)(p n:OF)(cf:D7)(ls:List d9)(env:T d9)(m:Mem):QJ a p n cf ls env m=eU a (p ls env) (n ls env) m:=rfl
def Bu (lo:Nat)(M:Mem)(p:Nat)(s:List UInt8):Prop:=lo<=p∧p<M.nx∧∃a v,M.get p=some (dZ 135 [a,v])∧(a=.nilPtr∨a=.ptr p 0)∧
 ((v=nS∧s=[])∨∃id,lo<=id∧id<M.nx∧id≠p∧v=.sliceU id 0 s.length 1∧M.get id=some (.buf 5 s)∧s≠[])
theorem Bu.ext {lo p:Nat}{M c:Mem}{s:List UInt8}(h:Bu lo M p s)(e:Ext M c):Bu lo c p s:=by obtain⟨f,d,a,v,g,i,b⟩:=h;refine⟨f,gq d e.nx,a,v,(e.old p d).trans g,i,?_⟩;rcases b with b | ⟨id,q1,q2,q3,q4,q5,q6⟩;exact .inl b;exact .inr ⟨id,q1,gq q2 e.nx,q3,q4,(e.old id q2).trans q5,q6⟩
theorem mH (a v:d9):dZ 135 [a,v]=.cells 2 1 (.nd (.nd .e (UQ 135) .e) [a,v] .e):=rfl
theorem KE {a v:d9}:ld1 (some (dZ 135 [a,v])) 0=some a:=by rw [mH];rfl
theorem KF {a v:d9}:ld1 (some (dZ 135 [a,v])) 1=some v:=by rw [mH];rfl
theorem aaL {a v x:d9}:Go.AM.uW (some (dZ 135 [a,v])) 0 [x]=some (dZ 135 [x,v]):=by rw [mH,mH];rfl
theorem aaM {a v x:d9}:Go.AM.uW (some (dZ 135 [a,v])) 1 [x]=some (dZ 135 [a,x]):=by rw [mH,mH];rfl
theorem aaN {M:Mem}{p:Nat}{a v:d9}(c:M.Ok)(hp:p<M.nx)(g:M.lim<=p)(b:M.get p=some (dZ 135 [a,v]))(e:a=.nilPtr∨a=.ptr p 0)(n fu:Nat):
  ∃M',j6 KW fu (n+1) (.func 181) [.ptr p 0] M=some [⟨.tuple [],M'⟩]∧M'.Ok∧M'.nx=M.nx∧M'.lim=M.lim∧M'.get p=some (dZ 135 [.ptr p 0,v])∧∀i,i≠p->M'.get i=M.get i:=by
 rcases e with rfl | rfl;have h:=J9 (m:=M) c (dZ 135 [.ptr p 0,v]) hp rfl;refine⟨M.set p (dZ 135 [.ptr p 0,v]),?_,Mem.Ok.set c hp _,by simp,by simp,h,λi f=>J6 c _ hp f⟩;have j:tU (.ptr p 0) M=some (.ptr p 0):=by show Q6 (M.get p) _=_;rw [b,mH];rfl
 have l:fU [(135,0),(246,2),(247,2)] (.ptr p 0) M=some (.ptr p 0):=by show Q6 (M.get p) _=_;rw [b,mH];rfl
 have d:storeAt M p 0 [.ptr p 0]=λ(k:Mem->eu)=>k (M.set p (dZ 135 [.ptr p 0,v])):=by funext k;rw [iq g,b,aaL];rfl
 rw [enter (sf:=f181) rfl rfl];simp [f181,b,KE,iL,iG,Um,NU,j,l,d];refine⟨M,?_,c,rfl,rfl,b,λ_ _=>rfl⟩;rw [enter (sf:=f181) rfl rfl];simp [f181,b,KE,iL,iG]
theorem aeM {lo p:Nat}{M:Mem}{s:List UInt8}(Q:M.Ok)(V:M.lim<=lo)(h:Bu lo M p s)(t:List UInt8)(hb:s.length+t.length<=1000000)(n fu:Nat):
  ∃v M',j6 KW fu (n+2) (.func 90) [.ptr p 0,.str t] M=some [⟨.tuple [v,.nilIface],M'⟩]∧M'.Ok∧M.nx<=M'.nx∧M'.lim=M.lim∧Bu lo M' p (s++t)∧(∀i,i<lo->M'.get i=M.get i)∧∀i rs n rows,i≠p->M.get i=some (.cells rs n rows)->M'.get i=M.get i:=by
 obtain⟨K,H,a,v,S,R,A⟩:=h;obtain⟨M1,O,c,n1,Z,F,E⟩:=aaN Q H (by omega) S R n fu;have U:M1.lim<=p:=by omega
 have z:∀(j:d9) (M2:Mem),(∀(x y:OF) (G:D7) (D:List d9) (e:T d9),x D e=v->y D e=.str t->wL 5 x y G D e M1=some [⟨j,M2⟩])->j.cells=[j]->w9 j=true->(∀{β:Type} (f:d9->β) q,bg j f q=q)->M2.Ok->M1.nx<=M2.nx->M2.lim=M1.lim->(∀i,i<lo∨i=p->M2.get i=M1.get i)->(∀i rs n rows,M1.get i=some (.cells rs n rows)->M2.get i=M1.get i)->
   ((j=nS∧s++t=[])∨∃id,lo<=id∧id<M2.nx∧id≠p∧j=.sliceU id 0 (s++t).length 1∧M2.get id=some (.buf 5 (s++t))∧s++t≠[])->
   ∃v M',j6 KW fu (n+2) (.func 90) [.ptr p 0,.str t] M=some [⟨.tuple [v,.nilIface],M'⟩]∧M'.Ok∧M.nx<=M'.nx∧M'.lim=M.lim∧Bu lo M' p (s++t)∧(∀i,i<lo->M'.get i=M.get i)∧∀i rs n rows,i≠p->M.get i=some (.cells rs n rows)->M'.get i=M.get i:=by
  intro j M2 P N X Y l n2 l2 L W w;have g:p<M2.nx:=by omega
  have I:M2.get p=some (dZ 135 [.ptr p 0,v]):=(L p (.inr rfl)).trans F;have J:storeAt M2 p 1 [j]=λ(k:Mem->eu)=>k (M2.set p (dZ 135 [.ptr p 0,j])):=by
   funext k;rw [iq (by omega),I,aaM];have:K5 [j]=true:=by rw [bJ,X];rfl
   rw [this];rfl
  refine⟨iV (t.length:Int),M2.set p (dZ 135 [.ptr p 0,j]),?_,Mem.Ok.set l g _,by simp;omega,by simp;omega,⟨K,by simpa using g,.ptr p 0,j,J9 l _ g rfl,.inr rfl,?_⟩,λi r=>?_,λi rs n rows r o=>?_⟩;rw [enter (sf:=f90) rfl rfl];simp [f90,O,F,KE,KF,P,N,Y,J];rcases w with w | ⟨id,q1,q2,q3,q4,q5,q6⟩;exact .inl w;exact .inr ⟨id,q1,by simpa using q2,q3,q4,(J6 l _ g q3).trans q5,q6⟩;rw [J6 l _ g (by omega),L i (.inl r),E i (by omega)];rw [J6 l _ g r,W i rs n rows ((E i r).trans o),E i r]
 cases t with
 | nil=>
  refine z v M1 (λx y G D e B C=>?_) ?_ ?_ ?_ c (J2 _) rfl (λ_ _=>rfl) (λ_ _ _ _ _=>rfl) ?_;rcases A with⟨rfl,rfl⟩ | ⟨id,q1,q2,q3,rfl,q5,q6⟩;unfold wL;rw [B,C];rfl;unfold wL;rw [B,C];have m:=(E id q3).trans q5;simp only [m];show bi true (bi true (bi true (bi (Nat.beq s.length (len' s)) (bi (Nat.ble M1.lim id) _ none) none) none) none) none=_;rw [I5,show Nat.beq s.length s.length=true from aah _,show Nat.ble M1.lim id=true from Y3 (by omega)];rfl;rcases A with⟨rfl,rfl⟩ | ⟨id,q1,q2,q3,rfl,q5,q6⟩<;>rfl
  rcases A with⟨rfl,rfl⟩ | ⟨id,q1,q2,q3,rfl,q5,q6⟩<;>rfl
  rcases A with⟨rfl,rfl⟩ | ⟨id,q1,q2,q3,rfl,q5,q6⟩<;>exact λ_ _=>rfl
  rw [ae8];rcases A with⟨rfl,rfl⟩ | ⟨id,q1,q2,q3,rfl,q5,q6⟩;exact .inl ⟨rfl,rfl⟩;exact .inr ⟨id,q1,by omega,q3,rfl,(E id q3).trans q5,q6⟩
 | cons b t=>
  rcases A with⟨rfl,rfl⟩ | ⟨id,q1,q2,q3,rfl,q5,q6⟩;refine z (.sliceU M1.nx 0 (b::t).length 1) (M1.new (.buf 5 (b::t))) (λx y G D e B C=>?_) rfl rfl (λ_ _=>rfl) (Mem.Ok.new c _) (by simp) (by simp) (λi r=>?_) (λi rs n rows o=>?_) (.inr ⟨M1.nx,by omega,by simp,by omega,rfl,by rw [Mem.J8 c,if_pos rfl];rfl,by simp⟩);unfold wL;rw [B,C];show bi (big (len' (b::t)) 1 1) (one (.sliceU M1.nx 0 (len' (b::t)) 1) (M1.new (.buf 5 (b::t)))) none=_;rw [I5,aju (by simp at hb ⊢;omega)];rfl;rw [Mem.J8 c,if_neg (by omega)];have:=Mem.H9 c o;rw [Mem.J8 c,if_neg (by omega)];have m:=(E id q3).trans q5;have u:id<M1.nx:=by omega
  have d:(M1.set id .dead).Ok:=Mem.Ok.set c u _;refine z (.sliceU M1.nx 0 (s++b::t).length 1) ((M1.set id .dead).new (.buf 5 (s++b::t))) (λx y G D e B C=>?_) rfl rfl (λ_ _=>rfl) (Mem.Ok.new d _) (by simp) (by simp) (λi r=>?_) (λi rs n rows o=>?_) (.inr ⟨M1.nx,by omega,by simp,by omega,rfl,by rw [Mem.J8 d,if_pos (by simp)],by simp⟩);unfold wL;rw [B,C];simp only [m];show bi true (bi true (bi true (bi (Nat.beq s.length (len' s)) (bi (Nat.ble M1.lim id) (bi (big (Nat.add s.length (len' (b::t))) 1 1) (one (.sliceU M1.nx 0 (Nat.add s.length (len' (b::t))) 1) ((M1.set id .dead).new (.buf 5 (V8 s (b::t))))) none) none) none) none) none) none=_;rw [I5,I5,Q9,show Nat.beq s.length s.length=true from aah _,show Nat.ble M1.lim id=true from Y3 (by omega),show Nat.add s.length (b::t).length=(s++b::t).length from by simp,aju (by simp at hb ⊢;omega)];rfl;rw [Mem.J8 d,if_neg (by simp;omega),J6 c _ u (by omega)];have K:=Mem.H9 c o;have H:i≠id:=λh=>by subst h;rw [m] at o;cases o
  rw [Mem.J8 d,if_neg (by simp;omega),J6 c _ u H]
theorem XI {lo p:Nat}{M:Mem}{s:List UInt8}(b:M.Ok)(g:M.lim<=lo)(h:Bu lo M p s)(hb:s.length<=1000000)(n fu:Nat):
  ∃M',j6 KW fu (n+1) (.func 92) [.ptr p 0] M=some [⟨.str s,M'⟩]∧M'.Ok∧M'.nx=M.nx∧M'.lim=M.lim∧∀i,i<lo->M'.get i=M.get i:=by
 obtain⟨k,l,a,v,f,m,j⟩:=h;rcases j with⟨rfl,rfl⟩ | ⟨id,q1,q2,q3,rfl,q5,q6⟩;refine⟨M,?_,b,rfl,rfl,λ_ _=>rfl⟩;have d:sD nS=some .nilPtr:=rfl;have e:eU 5 .nilPtr (iV 0) M=some [⟨.str [],M⟩]:=rfl;rw [enter (sf:=f92) rfl rfl];simp [f92,f,KF,Fw,NV,d,e];have c:0<s.length:=ae4.2 q6;refine⟨M.set id .dead,?_,Mem.Ok.set b q2 _,by simp,by simp,λi o=>J6 b _ q2 (by omega)⟩;have d:sD (.sliceU id 0 s.length 1)=some (.ptr id 0):=by show bi (Nat.blt 0 s.length) (some (d9.ptr id 0)) none=_;rw [show Nat.blt 0 s.length=true from X8.mpr c];rfl
 have e:eU 5 (.ptr id 0) (iV (s.length:Int)) M=some [⟨.str s,M.set id .dead⟩]:=by
  unfold eU;show bi (Nat.beq 0 0) (bi (Nat.ble M.lim id) (match M.get id with
   | some (.buf ty' s')=>bi (Nat.beq 5 ty') (bi (Nat.beq s.length (len' s')) (bi (Nat.ble s.length 9223372036854775807) (one (.str s') (M.set id .dead)) none) none) none
   | _=>none) none) none=_
  rw [q5,show Nat.ble M.lim id=true from Y3 (by omega)];show bi (Nat.beq s.length (len' s)) (bi (Nat.ble s.length 9223372036854775807) (one (.str s) (M.set id .dead)) none) none=_;rw [I5,show Nat.beq s.length s.length=true from aah _,show Nat.ble s.length 9223372036854775807=true from Y3 (by omega)];rfl
 rw [enter (sf:=f92) rfl rfl];simp [f92,f,KF,Fw,NV,d,e]
theorem apb (n fu:Nat)(m:Mem):j6 KW fu (n+8) (.func 89) [.str [32,32],iV 0] m=some [⟨.str [],m⟩]:=by kernel_rfl
theorem apc (n fu:Nat)(m:Mem):j6 KW fu (n+8) (.func 89) [.str [32,32],iV 1] m=some [⟨.str [32,32],m⟩]:=by kernel_rfl
theorem apd (n fu:Nat)(m:Mem):j6 KW fu (n+8) (.func 89) [.str [32,32],iV 2] m=some [⟨.str [32,32,32,32],m⟩]:=by kernel_rfl
theorem ape (n fu:Nat)(m:Mem):j6 KW fu (n+8) (.func 89) [.str [32,32],iV 3] m=some [⟨.str [32,32,32,32,32,32],m⟩]:=by kernel_rfl
theorem apf (n fu:Nat)(m:Mem):j6 KW fu (n+8) (.func 89) [.str [32,32],iV 4] m=some [⟨.str [32,32,32,32,32,32,32,32],m⟩]:=by kernel_rfl
theorem apg (n fu:Nat)(m:Mem):j6 KW fu (n+8) (.func 89) [.str [32,32],iV 5] m=some [⟨.str [32,32,32,32,32,32,32,32,32,32],m⟩]:=by kernel_rfl
theorem aph (n fu:Nat)(m:Mem):j6 KW fu (n+8) (.func 89) [.str [32,32],iV 6] m=some [⟨.str [32,32,32,32,32,32,32,32,32,32,32,32],m⟩]:=by kernel_rfl
theorem apj (n fu:Nat)(m:Mem):j6 KW fu (n+8) (.func 89) [.str [32,32],iV 7] m=some [⟨.str [32,32,32,32,32,32,32,32,32,32,32,32,32,32],m⟩]:=by kernel_rfl
theorem apk (n fu:Nat)(m:Mem):j6 KW fu (n+8) (.func 89) [.str [32,32],iV 8] m=some [⟨.str [32,32,32,32,32,32,32,32,32,32,32,32,32,32,32,32],m⟩]:=by kernel_rfl
theorem apl (n fu:Nat)(m:Mem):j6 KW fu (n+8) (.func 89) [.str [32,32],iV 9] m=some [⟨.str [32,32,32,32,32,32,32,32,32,32,32,32,32,32,32,32,32,32],m⟩]:=by kernel_rfl
theorem ajv (n fu:Nat)(m:Mem):j6 KW fu (n+8) (.func 89) [.str [32,32],iV 10] m=some [⟨.str [32,32,32,32,32,32,32,32,32,32,32,32,32,32,32,32,32,32,32,32],m⟩]:=by kernel_rfl
theorem ajw (n fu:Nat)(m:Mem):j6 KW fu (n+8) (.func 89) [.str [32,32],iV 11] m=some [⟨.str [32,32,32,32,32,32,32,32,32,32,32,32,32,32,32,32,32,32,32,32,32,32],m⟩]:=by kernel_rfl
theorem ajx (n fu:Nat)(m:Mem):j6 KW fu (n+8) (.func 89) [.str [32,32],iV 12] m=some [⟨.str [32,32,32,32,32,32,32,32,32,32,32,32,32,32,32,32,32,32,32,32,32,32,32,32],m⟩]:=by kernel_rfl
theorem ajy (n fu:Nat)(m:Mem):j6 KW fu (n+8) (.func 89) [.str [32,32],iV 13] m=some [⟨.str [32,32,32,32,32,32,32,32,32,32,32,32,32,32,32,32,32,32,32,32,32,32,32,32,32,32],m⟩]:=by kernel_rfl
theorem ajz (n fu:Nat)(m:Mem):j6 KW fu (n+8) (.func 89) [.str [32,32],iV 14] m=some [⟨.str [32,32,32,32,32,32,32,32,32,32,32,32,32,32,32,32,32,32,32,32,32,32,32,32,32,32,32,32],m⟩]:=by kernel_rfl
theorem ajA (n fu:Nat)(m:Mem):j6 KW fu (n+8) (.func 89) [.str [32,32],iV 15] m=some [⟨.str [32,32,32,32,32,32,32,32,32,32,32,32,32,32,32,32,32,32,32,32,32,32,32,32,32,32,32,32,32,32],m⟩]:=by kernel_rfl
theorem ajB (n fu:Nat)(m:Mem):j6 KW fu (n+8) (.func 89) [.str [32,32],iV 16] m=some [⟨.str [32,32,32,32,32,32,32,32,32,32,32,32,32,32,32,32,32,32,32,32,32,32,32,32,32,32,32,32,32,32,32,32],m⟩]:=by kernel_rfl
theorem ajC (n fu:Nat)(m:Mem):j6 KW fu (n+8) (.func 89) [.str [32,32],iV 17] m=some [⟨.str [32,32,32,32,32,32,32,32,32,32,32,32,32,32,32,32,32,32,32,32,32,32,32,32,32,32,32,32,32,32,32,32,32,32],m⟩]:=by kernel_rfl
theorem ajD (n fu:Nat)(m:Mem):j6 KW fu (n+8) (.func 89) [.str [32,32],iV 18] m=some [⟨.str [32,32,32,32,32,32,32,32,32,32,32,32,32,32,32,32,32,32,32,32,32,32,32,32,32,32,32,32,32,32,32,32,32,32,32,32],m⟩]:=by kernel_rfl
theorem ajE (n fu:Nat)(m:Mem):j6 KW fu (n+8) (.func 89) [.str [32,32],iV 19] m=some [⟨.str [32,32,32,32,32,32,32,32,32,32,32,32,32,32,32,32,32,32,32,32,32,32,32,32,32,32,32,32,32,32,32,32,32,32,32,32,32,32],m⟩]:=by kernel_rfl
theorem ajF (n fu:Nat)(m:Mem):j6 KW fu (n+8) (.func 89) [.str [32,32],iV 20] m=some [⟨.str [32,32,32,32,32,32,32,32,32,32,32,32,32,32,32,32,32,32,32,32,32,32,32,32,32,32,32,32,32,32,32,32,32,32,32,32,32,32,32,32],m⟩]:=by kernel_rfl
theorem ajG (n fu:Nat)(m:Mem):j6 KW fu (n+8) (.func 89) [.str [32,32],iV 21] m=some [⟨.str [32,32,32,32,32,32,32,32,32,32,32,32,32,32,32,32,32,32,32,32,32,32,32,32,32,32,32,32,32,32,32,32,32,32,32,32,32,32,32,32,32,32],m⟩]:=by kernel_rfl
theorem XJ (d:Nat)(a:d<=21)(n fu:Nat)(m:Mem):j6 KW fu (n+8) (.func 89) [.str [32,32],iV (d:Int)] m=some [⟨.str (bR d),m⟩]:=by
 match d,a with
 | 0,_=>exact apb n fu m
 | 1,_=>exact apc n fu m
 | 2,_=>exact apd n fu m
 | 3,_=>exact ape n fu m
 | 4,_=>exact apf n fu m
 | 5,_=>exact apg n fu m
 | 6,_=>exact aph n fu m
 | 7,_=>exact apj n fu m
 | 8,_=>exact apk n fu m
 | 9,_=>exact apl n fu m
 | 10,_=>exact ajv n fu m
 | 11,_=>exact ajw n fu m
 | 12,_=>exact ajx n fu m
 | 13,_=>exact ajy n fu m
 | 14,_=>exact ajz n fu m
 | 15,_=>exact ajA n fu m
 | 16,_=>exact ajB n fu m
 | 17,_=>exact ajC n fu m
 | 18,_=>exact ajD n fu m
 | 19,_=>exact ajE n fu m
 | 20,_=>exact ajF n fu m
 | 21,_=>exact ajG n fu m
 | d+22,h=>exact absurd h (by omega)
theorem vG:∀(a b:List ak) (d:Nat),bU (a++b) d=bU a d++bU b d
 | [],b,d=>rfl
 | s::a,b,d=>by rw [ae3,bU,vG a b d,bU,afw]
theorem NW:∀{l:List ak} (h:eO l=true) (i:Nat) (hi:i<l.length),Bf l[i]=true
 | e::l,h,0,hi=>by rw [eO,q8] at h;exact h.1
 | e::l,h,i+1,hi=>by rw [eO,q8] at h;exact NW h.2 i (by simpa using hi)
theorem II {k:Int}{s:List UInt8}{e:List Ex}{t f:List ak}(h:Bf (.mk k s e t f)=true):(k=1∨k=2∨k=3∨k=4∨k=5∨k=6)∧V6 e=true∧eO t=true∧eO f=true∧s.length<=16∧fmQ k e t f:=by
 have q:=h;simp only [Bf,q8,aci,decide_eq_true_eq] at h;obtain⟨⟨⟨⟨⟨⟨⟨⟨⟨⟨o,p⟩,b⟩,c⟩,d⟩,g⟩,i⟩,j⟩,l⟩,m⟩,n⟩:=h;refine⟨by omega,l,m,n,?_,c,d,by rcases g with (a | a) | a<;>simp [a],i,j⟩
 split at b;exact Dg b;have:s=[]:=by simpa using b
 simp [this]
def C34 (n fu d:Nat):Prop:=∀(m:Mem) (v:d9) (l:List ak) (dp:Nat),m.Ok->m.lim<=m.nx->13<=m.nx->U2 m (λ_=>True) l v->eO l=true->Z0 l<=1000->aR l<=d->dp+d<=20->
 ∃m',j6 KW fu n (.func 49) [v,iV (dp:Int)] m=some [⟨.str (bU l dp),m'⟩]∧Ext m m'
theorem aaO {n fu d:Nat}(b9:20000<=fu)(hn:3*d+3<=n+2)(af:C34 (n+2) fu d){m:Mem}(hm:m.Ok)(hl:m.lim<=m.nx)(hb:13<=m.nx){v:d9}{rows:List (List d9)}(l:List ak)(dp p:Nat)(bm:m.nx<=p)(h1:jf m (λ_=>True) 5 v rows)(h2:H7 m (λ_=>True) l rows)(hf:eO l=true)(bn:Z0 l<=1000)(hd:aR l<=d+1)(bk:dp+(d+1)<=20):
  ∀(j i:Nat),i+j=l.length->∀(c x6 x7 x8 x11 x12 x13 x14 x15 x16:d9) (M:Mem) (N:Nat),Ext m M->Bu m.nx M p (bU (l.take i) dp)->j+1<=N->
  ∃c' x6' x7' x8' x11' x12' x13' x14' x15' x16' M',I4 (λenv m k=>tq (j6 KW fu (n+2)) fu none env m k) N (aaq (iV (dp:Int)) v (iV (i:Int)) (iV (l.length:Int)) c v x6 x7 x8 (.str (bR dp)) (.ptr p 0) x11 x12 x13 x14 x15 x16 (.str [])) M []=some [⟨.exit 0,(aaq (iV (dp:Int)) v (iV (l.length:Int)) (iV (l.length:Int)) c' v x6' x7' x8' (.str (bR dp)) (.ptr p 0) x11' x12' x13' x14' x15' x16' (.str [])),M',[],none⟩]∧Ext m M'∧Bu m.nx M' p (bU l dp):=by
 have ah:=H7.len h2;have a9:=h1.slice.len;rw [ah] at a9;have bl:=bD l;have bg:=oW l dp hf (by omega);intro j;induction j with
 | zero=>
  intro i hi c x6 x7 x8 x11 x12 x13 x14 x15 x16 M N E B hN;obtain⟨N,rfl⟩:∃k,N=k+1:=⟨N-1,by omega⟩;obtain rfl:i=l.length:=by omega
  rw [agq] at B;refine⟨.bool false,x6,x7,x8,x11,x12,x13,x14,x15,x16,M,?_,E,B⟩;rw [p9];simp [tq]
 | succ j ih=>
  intro i hi c x6 x7 x8 x11 x12 x13 x14 x15 x16 M N E B hN;obtain⟨N,rfl⟩:∃k,N=k+1:=⟨N-1,by omega⟩;have o:i<l.length:=by omega
  have ac:i<rows.length:=by omega
  have r:(i:Int)<(l.length:Int):=by omega
  have hM:=E.ok;have b3:M.lim<=M.nx:=by rw [E.lim];exact aP hl E.nx
  have b4:13<=M.nx:=aP hb E.nx;obtain⟨bq,o1,a1,a2,a3,a4,a5⟩:=(h1.slice.ext E).at ac;have ad:=H7.get h2 i o ac;have bo:=ad.row;have y:=a4 0 5 (by omega) (by omega);rw [U9,W9 (by omega),Y6] at y;have bd:=mE l i o;have b7:=vF l i o;have b8:=NW hf i o;have be:bU (l.take i) dp++(Gu l[i] dp++bU (l.drop (i+1)) dp)=bU l dp:=by rw [← bU,← Y8 o,← vG,List.take_append_drop]
  have ar:bU (l.take (i+1)) dp=bU (l.take i) dp++Gu l[i] dp:=by rw [aa1 o,vG];show _++(Gu l[i] dp ++ [])=_;rw [ae8]
  have b5:(bU (l.take i) dp).length+(Gu l[i] dp).length<=700000:=by have:=congrArg List.length be;rw [Z8,Z8] at this;omega
  have C:=ih (i+1) (by omega);rw [ar] at C;clear ih ar;generalize bU (l.take i) dp=pre at *;generalize hX:l[i]=X at *;generalize hR:rows[i]=R at *;obtain⟨k0,a,e,t,f⟩:=X;obtain⟨D,x,F,re,rt,rf,rfl,e1,e2,t1,t2,f1,f2⟩:=ad;obtain⟨hk,fe,ft,ff,bp,fq⟩:=II b8;rw [stP] at bd;rw [wh] at b7;have hJ:=Dh e fe;have bh:=oW t (dp+1) ft (by omega);have bi:=oW f (dp+1) ff (by omega);have hI:(bR dp).length<=50:=by rw [bR,List.length_replicate];omega
  have Q:=e1.slice.cells;have T:=t1.slice.cells;have S:=f1.slice.cells;have oe:=e1.slice.w9;have ot:=t1.slice.w9;have of:=f1.slice.w9;have oi:∀(k:IntKind) (i:Int),Go.AM.w9 (.int k i)=true:=λ_ _=>rfl;have I:∀s:List UInt8,Go.AM.w9 (.str s)=true:=λ_=>rfl;have ss:∀s:List UInt8,aB 100 (.str s) (.str s)=true:=λs=>oV 99 s;have O:aB 100 D D=true:=eH e1.slice 99;have P:aB 100 x x=true:=eH t1.slice 99;have w1:mK ((dp:Int)+1)=(dp:Int)+1:=O0 (by omega) (by omega);obtain⟨U,V,W,Y,Z,a0⟩:=CF hM b3;have L:Go.AM.uW (some (o7 (r5 0 [] nS nS nS))) 0 (r5 k0 a D x F)=some (o7 (r5 k0 a D x F)):=by rw [gZ (by simp) (by simp)];rfl
  have E1:=G7 hM [o7 (r5 k0 a D x F)];have Em1:=E.trans E1;have A:(ext M [o7 (r5 k0 a D x F)]).get M.nx=some (o7 (r5 k0 a D x F)):=by rw [A8 hM];rfl
  have ba:(ext M [o7 (r5 k0 a D x F)]).lim<=(ext M [o7 (r5 k0 a D x F)]).nx:=by rw [Em1.lim];exact aP hl Em1.nx
  obtain⟨M2,g2,E2⟩:=aeL fu b9 d (n+2) hn (ext M [o7 (r5 k0 a D x F)]) D e E1.ok ba (aP b4 E1.nx) (jg.ext ⟨re,e1,e2⟩ Em1) fe (by omega) (by omega);have Em2:=Em1.trans E2;have aq:M2.lim<=M2.nx:=by rw [Em2.lim];exact aP hl Em2.nx
  have b:M2.get M.nx=some (o7 (r5 k0 a D x F)):=(E2.old _ (by simp)).trans A;have B2:=(B.ext E1).ext E2;have bc:p≠M.nx:=by have:=B.2.1;omega
  have wr:∀(Mx:Mem) (s u:List UInt8),Ext m Mx->Bu m.nx Mx p s->s.length+u.length<=1000000->Mx.get M.nx=some (o7 (r5 k0 a D x F))->∃v My,j6 KW fu (n+2) (.func 90) [.ptr p 0,.str u] Mx=some [⟨.tuple [v,.nilIface],My⟩]∧Ext m My∧Bu m.nx My p (s++u)∧My.get M.nx=some (o7 (r5 k0 a D x F)):=by intro Mx s u Ex Bx a9 hc;obtain⟨v,My,g,J,K,q3,q4,q5,q6⟩:=aeM Ex.ok (by rw [Ex.lim];exact hl) Bx u a9 n fu;exact⟨v,My,g,⟨J,aP Ex.nx K,q3.trans Ex.lim,λi hi=>(q5 i hi).trans (Ex.old i hi)⟩,q4,(q6 M.nx _ _ _ (agn bc) (by rw [hc];rfl)).trans hc⟩
  rcases hk with rfl | rfl | rfl | rfl | rfl | rfl;obtain⟨vw,M3,q,E3,B3,w⟩:=wr M2 pre (Gu (.mk 1 a e t f) dp) Em2 B2 (by omega) b;rw [show Gu (.mk 1 a e t f) dp=bR dp++([108,101,116,32]++(a++([32,61,32]++(kT e ++ [59,10])))) from rfl] at q
  (try simp only [iI] at q)
  have G:P6 (bR dp) [108,101,116,32]=some (.str ((bR dp) ++ [108,101,116,32])):=by rw [L8 (by (try simp only [dU]);omega)];(try simp only [iI])
  have H:P6 ((bR dp) ++ [108,101,116,32]) a=some (.str ((bR dp)++(108::101::116::32::a))):=by rw [L8 (by (try simp only [dU]);omega)];(try simp only [iI])
  have a7:P6 ((bR dp)++(108::101::116::32::a)) [32,61,32]=some (.str ((bR dp)++(108::101::116::32::(a ++ [32,61,32])))):=by rw [L8 (by (try simp only [dU]);omega)];(try simp only [iI])
  have ae:P6 ((bR dp)++(108::101::116::32::(a ++ [32,61,32]))) (kT e)=some (.str ((bR dp)++(108::101::116::32::(a++(32::61::32::(kT e)))))):=by rw [L8 (by (try simp only [dU]);omega)];(try simp only [iI])
  have aw:P6 ((bR dp)++(108::101::116::32::(a++(32::61::32::(kT e))))) [59,10]=some (.str ((bR dp)++(108::101::116::32::(a++(32::61::32::((kT e) ++ [59,10])))))):=by rw [L8 (by (try simp only [dU]);omega)];(try simp only [iI])
  obtain⟨c',x6',x7',x8',x11',x12',x13',x14',x15',x16',M',gg,J,K⟩:=C tt (.ptr M.nx 0) (iV 1) tt x11 x12 x13 x14 x15 x16 M3 N E3 B3 (by omega);refine⟨c',x6',x7',x8',x11',x12',x13',x14',x15',x16',M',?_,J,K⟩;rw [p9,← gg];simp [tq,H8,I8,U,V,W,Y,Z,a0,oi,I,o,r,a1,y,L,Q,T,S,oe,ot,of,ss,O,P,g2,q,A,b,G,H,a7,ae,aw,P9 (i:=i) (by omega)];obtain⟨vw,M3,q,E3,B3,w⟩:=wr M2 pre (Gu (.mk 2 a e t f) dp) Em2 B2 (by omega) b;rw [show Gu (.mk 2 a e t f) dp=bR dp++(a++([32,61,32]++(kT e ++ [59,10]))) from rfl] at q
  (try simp only [iI] at q)
  have G:P6 (bR dp) a=some (.str ((bR dp)++a)):=by rw [L8 (by (try simp only [dU]);omega)];(try simp only [iI])
  have H:P6 ((bR dp)++a) [32,61,32]=some (.str ((bR dp)++(a ++ [32,61,32]))):=by rw [L8 (by (try simp only [dU]);omega)];(try simp only [iI])
  have a7:P6 ((bR dp)++(a ++ [32,61,32])) (kT e)=some (.str ((bR dp)++(a++(32::61::32::(kT e))))):=by rw [L8 (by (try simp only [dU]);omega)];(try simp only [iI])
  have ae:P6 ((bR dp)++(a++(32::61::32::(kT e)))) [59,10]=some (.str ((bR dp)++(a++(32::61::32::((kT e) ++ [59,10]))))):=by rw [L8 (by (try simp only [dU]);omega)];(try simp only [iI])
  obtain⟨c',x6',x7',x8',x11',x12',x13',x14',x15',x16',M',gg,J,K⟩:=C tt (.ptr M.nx 0) (iV 2) (.bool false) tt x12 x13 x14 x15 x16 M3 N E3 B3 (by omega);refine⟨c',x6',x7',x8',x11',x12',x13',x14',x15',x16',M',?_,J,K⟩;rw [p9,← gg];simp [tq,H8,I8,U,V,W,Y,Z,a0,oi,I,o,r,a1,y,L,Q,T,S,oe,ot,of,ss,O,P,g2,q,A,b,G,H,a7,ae,P9 (i:=i) (by omega)];obtain⟨M3,q,E3⟩:=af M2 x t (dp+1) Em2.ok aq (aP hb Em2.nx) (U2.ext ⟨rt,t1,t2⟩ Em2) ft (by omega) (by omega) (by omega);have q:j6 KW fu (n+2) (.func 49) [x,.int .i64 ((dp:Int)+1)] M2=_:=q;have Em3:=Em2.trans E3;have w:M3.get M.nx=some (o7 (r5 3 a D x F)):=(E3.old _ (gq (by simp) E2.nx)).trans b;have B3:=B2.ext E3;have ai:P6 (bR dp) [105,102,32]=some (.str ((bR dp) ++ [105,102,32])):=by rw [L8 (by (try simp only [dU]);omega)];(try simp only [iI])
  have aj:P6 ((bR dp) ++ [105,102,32]) (kT e)=some (.str ((bR dp)++(105::102::32::(kT e)))):=by rw [L8 (by (try simp only [dU]);omega)];(try simp only [iI])
  have al:P6 ((bR dp)++(105::102::32::(kT e))) [32,123,10]=some (.str ((bR dp)++(105::102::32::((kT e) ++ [32,123,10])))):=by rw [L8 (by (try simp only [dU]);omega)];(try simp only [iI])
  have am:P6 ((bR dp)++(105::102::32::((kT e) ++ [32,123,10]))) (bU t (dp+1))=some (.str ((bR dp)++(105::102::32::((kT e)++(32::123::10::(bU t (dp+1))))))):=by rw [L8 (by (try simp only [dU]);omega)];(try simp only [iI])
  have an:P6 (bR dp) [125,10]=some (.str ((bR dp) ++ [125,10])):=by rw [L8 (by (try simp only [dU]);omega)];(try simp only [iI])
  have au:P6 (bR dp) [125,32,101,108,115,101,32,123,10]=some (.str ((bR dp) ++ [125,32,101,108,115,101,32,123,10])):=by rw [L8 (by (try simp only [dU]);omega)];(try simp only [iI])
  have av:P6 ((bR dp) ++ [125,32,101,108,115,101,32,123,10]) (bU f (dp+1))=some (.str ((bR dp)++(125::32::101::108::115::101::32::123::10::(bU f (dp+1))))):=by rw [L8 (by (try simp only [dU]);omega)];(try simp only [iI])
  have z:pre.length+(bR dp++([105,102,32]++(kT e++([32,123,10]++(bU t (dp+1)++((if 0<f.length then bR dp++([125,32,101,108,115,101,32,123,10]++bU f (dp+1)) else [])++(bR dp ++ [125,10]))))))).length<=700000:=b5;have ao:=z;simp only [dU] at ao;obtain⟨bf,M4,g4,E4,B4,a6⟩:=wr M3 pre (bR dp++([105,102,32]++(kT e++([32,123,10]++bU t (dp+1))))) Em3 B3 (by simp only [dU];omega) w;simp only [iI] at g4;have aa:=f1.slice.len;rw [H7.len f2] at aa;by_cases hf0:f.length=0;have a8:f=[]:=aa2.1 hf0;rw [if_neg (by omega)] at z;simp only [dU] at z;obtain⟨br,M5,g5,E5,B5,ag⟩:=wr M4 _ (bR dp ++ [125,10]) E4 B4 (by simp only [dU];omega) a6;have B5':Bu m.nx M5 p (pre++Gu (.mk 3 a e t f) dp):=by rw [show Gu (.mk 3 a e t f) dp=bR dp++([105,102,32]++(kT e++([32,123,10]++(bU t (dp+1)++((if 0<f.length then bR dp++([125,32,101,108,115,101,32,123,10]++bU f (dp+1)) else [])++(bR dp ++ [125,10])))))) from rfl,if_neg (by omega)];simpa only [afw,ae3,adW] using B5
  obtain⟨c',x6',x7',x8',x11',x12',x13',x14',x15',x16',M',gg,J,K⟩:=C tt (.ptr M.nx 0) (iV 3) (.bool false) (.bool false) (.bool false) (.bool false) (.bool false) tt (.bool false) M5 N E5 B5' (by omega);refine⟨c',x6',x7',x8',x11',x12',x13',x14',x15',x16',M',?_,J,K⟩;rw [p9,← gg];simp [tq,H8,I8,U,V,W,Y,Z,a0,oi,I,o,r,a1,y,L,Q,T,S,oe,ot,of,ss,O,P,g2,q,g4,g5,A,b,w,a6,w1,aa,hf0,a8,ai,aj,al,am,an,P9 (i:=i) (by omega)];have ap:0<(f.length:Int):=by omega
  have ab:0<f.length:=by omega
  have a8:¬ f=[]:=λh=>by simp [h] at hf0
  rw [if_pos ab] at z;simp only [dU] at z;have bb:M4.lim<=M4.nx:=by rw [E4.lim];exact aP hl E4.nx
  obtain⟨M5,g5,E5⟩:=af M4 F f (dp+1) E4.ok bb (aP hb E4.nx) (U2.ext ⟨rf,f1,f2⟩ E4) ff (by omega) (by omega) (by omega);have g5:j6 KW fu (n+2) (.func 49) [F,.int .i64 ((dp:Int)+1)] M4=_:=g5;have Em5:=E4.trans E5;have ag:M5.get M.nx=some (o7 (r5 3 a D x F)):=(E5.old _ (Mem.H9 E4.ok a6)).trans a6;have B5:=B4.ext E5;obtain⟨bs,M6,g6,E6,B6,b6⟩:=wr M5 _ (bR dp++([125,32,101,108,115,101,32,123,10]++bU f (dp+1))) Em5 B5 (by simp only [dU];omega) ag;obtain⟨bt,M7,g7,E7,B7,bj⟩:=wr M6 _ (bR dp ++ [125,10]) E6 B6 (by simp only [dU];omega) b6;simp only [iI] at g6;have B7':Bu m.nx M7 p (pre++Gu (.mk 3 a e t f) dp):=by rw [show Gu (.mk 3 a e t f) dp=bR dp++([105,102,32]++(kT e++([32,123,10]++(bU t (dp+1)++((if 0<f.length then bR dp++([125,32,101,108,115,101,32,123,10]++bU f (dp+1)) else [])++(bR dp ++ [125,10])))))) from rfl,if_pos (by omega)];simpa only [afw,ae3,adW] using B7
  obtain⟨c',x6',x7',x8',x11',x12',x13',x14',x15',x16',M',gg,J,K⟩:=C tt (.ptr M.nx 0) (iV 3) (.bool false) (.bool false) (.bool false) (.bool false) (.bool false) tt tt M7 N E7 B7' (by omega);refine⟨c',x6',x7',x8',x11',x12',x13',x14',x15',x16',M',?_,J,K⟩;rw [p9,← gg];simp [tq,H8,I8,U,V,W,Y,Z,a0,oi,I,o,r,a1,y,L,Q,T,S,oe,ot,of,ss,O,P,g2,q,g4,g5,g6,g7,A,b,w,a6,ag,w1,aa,hf0,ap,ab,a8,ai,aj,al,am,an,au,av,P9 (i:=i) (by omega)];obtain⟨M3,q,E3⟩:=af M2 x t (dp+1) Em2.ok aq (aP hb Em2.nx) (U2.ext ⟨rt,t1,t2⟩ Em2) ft (by omega) (by omega) (by omega);have q:j6 KW fu (n+2) (.func 49) [x,.int .i64 ((dp:Int)+1)] M2=_:=q;have Em3:=Em2.trans E3;have w:M3.get M.nx=some (o7 (r5 4 a D x F)):=(E3.old _ (gq (by simp) E2.nx)).trans b;have B3:=B2.ext E3;have ax:P6 (bR dp) [119,104,105,108,101,32]=some (.str ((bR dp) ++ [119,104,105,108,101,32])):=by rw [L8 (by (try simp only [dU]);omega)];(try simp only [iI])
  have ay:P6 ((bR dp) ++ [119,104,105,108,101,32]) (kT e)=some (.str ((bR dp)++(119::104::105::108::101::32::(kT e)))):=by rw [L8 (by (try simp only [dU]);omega)];(try simp only [iI])
  have az:P6 ((bR dp)++(119::104::105::108::101::32::(kT e))) [32,123,10]=some (.str ((bR dp)++(119::104::105::108::101::32::((kT e) ++ [32,123,10])))):=by rw [L8 (by (try simp only [dU]);omega)];(try simp only [iI])
  have b0:P6 ((bR dp)++(119::104::105::108::101::32::((kT e) ++ [32,123,10]))) (bU t (dp+1))=some (.str ((bR dp)++(119::104::105::108::101::32::((kT e)++(32::123::10::(bU t (dp+1))))))):=by rw [L8 (by (try simp only [dU]);omega)];(try simp only [iI])
  have b1:P6 ((bR dp)++(119::104::105::108::101::32::((kT e)++(32::123::10::(bU t (dp+1)))))) (bR dp)=some (.str ((bR dp)++(119::104::105::108::101::32::((kT e)++(32::123::10::((bU t (dp+1))++(bR dp))))))):=by rw [L8 (by (try simp only [dU]);omega)];(try simp only [iI])
  have b2:P6 ((bR dp)++(119::104::105::108::101::32::((kT e)++(32::123::10::((bU t (dp+1))++(bR dp)))))) [125,10]=some (.str ((bR dp)++(119::104::105::108::101::32::((kT e)++(32::123::10::((bU t (dp+1))++((bR dp) ++ [125,10]))))))):=by rw [L8 (by (try simp only [dU]);omega)];(try simp only [iI])
  obtain⟨bf,M4,g4,E4,B4,a6⟩:=wr M3 pre (Gu (.mk 4 a e t f) dp) Em3 B3 (by omega) w;rw [show Gu (.mk 4 a e t f) dp=bR dp++([119,104,105,108,101,32]++(kT e++([32,123,10]++(bU t (dp+1)++(bR dp ++ [125,10]))))) from rfl] at g4;simp only [iI] at g4;obtain⟨c',x6',x7',x8',x11',x12',x13',x14',x15',x16',M',gg,J,K⟩:=C tt (.ptr M.nx 0) (iV 4) (.bool false) (.bool false) (.bool false) (.bool false) tt x15 x16 M4 N E4 B4 (by omega);refine⟨c',x6',x7',x8',x11',x12',x13',x14',x15',x16',M',?_,J,K⟩;rw [p9,← gg];simp [tq,H8,I8,U,V,W,Y,Z,a0,oi,I,o,r,a1,y,L,Q,T,S,oe,ot,of,ss,O,P,g2,q,g4,A,b,w,w1,ax,ay,az,b0,b1,b2,P9 (i:=i) (by omega)];obtain⟨vw,M3,q,E3,B3,w⟩:=wr M2 pre (Gu (.mk 5 a e t f) dp) Em2 B2 (by omega) b;rw [show Gu (.mk 5 a e t f) dp=bR dp++([112,114,105,110,116,32]++(kT e ++ [59,10])) from rfl] at q
  (try simp only [iI] at q)
  have G:P6 (bR dp) [112,114,105,110,116,32]=some (.str ((bR dp) ++ [112,114,105,110,116,32])):=by rw [L8 (by (try simp only [dU]);omega)];(try simp only [iI])
  have H:P6 ((bR dp) ++ [112,114,105,110,116,32]) (kT e)=some (.str ((bR dp)++(112::114::105::110::116::32::(kT e)))):=by rw [L8 (by (try simp only [dU]);omega)];(try simp only [iI])
  have a7:P6 ((bR dp)++(112::114::105::110::116::32::(kT e))) [59,10]=some (.str ((bR dp)++(112::114::105::110::116::32::((kT e) ++ [59,10])))):=by rw [L8 (by (try simp only [dU]);omega)];(try simp only [iI])
  obtain⟨c',x6',x7',x8',x11',x12',x13',x14',x15',x16',M',gg,J,K⟩:=C tt (.ptr M.nx 0) (iV 5) (.bool false) (.bool false) tt x13 x14 x15 x16 M3 N E3 B3 (by omega);refine⟨c',x6',x7',x8',x11',x12',x13',x14',x15',x16',M',?_,J,K⟩;rw [p9,← gg];simp [tq,H8,I8,U,V,W,Y,Z,a0,oi,I,o,r,a1,y,L,Q,T,S,oe,ot,of,ss,O,P,g2,q,A,b,G,H,a7,P9 (i:=i) (by omega)];obtain⟨vw,M3,q,E3,B3,w⟩:=wr M2 pre (Gu (.mk 6 a e t f) dp) Em2 B2 (by omega) b;rw [show Gu (.mk 6 a e t f) dp=bR dp++(kT e ++ [59,10]) from rfl] at q
  (try simp only [iI] at q)
  have G:P6 (bR dp) (kT e)=some (.str ((bR dp)++(kT e))):=by rw [L8 (by (try simp only [dU]);omega)];(try simp only [iI])
  have H:P6 ((bR dp)++(kT e)) [59,10]=some (.str ((bR dp)++((kT e) ++ [59,10]))):=by rw [L8 (by (try simp only [dU]);omega)];(try simp only [iI])
  obtain⟨c',x6',x7',x8',x11',x12',x13',x14',x15',x16',M',gg,J,K⟩:=C tt (.ptr M.nx 0) (iV 6) (.bool false) (.bool false) (.bool false) tt x14 x15 x16 M3 N E3 B3 (by omega);refine⟨c',x6',x7',x8',x11',x12',x13',x14',x15',x16',M',?_,J,K⟩;rw [p9,← gg];simp [tq,H8,I8,U,V,W,Y,Z,a0,oi,I,o,r,a1,y,L,Q,T,S,oe,ot,of,ss,O,P,g2,q,A,b,G,H,P9 (i:=i) (by omega)]
theorem XK {m:Mem}(a:m.Ok):Bu m.nx (ext m [dZ 135 [.nilPtr,nS]]) m.nx []:=
 ⟨J2 _,by simp,.nilPtr,nS,by rw [A8 a];rfl,.inl rfl,.inl ⟨rfl,rfl⟩⟩
theorem aeN (fu:Nat)(F:20000<=fu):∀d n:Nat,3*d+12<=n->C34 n fu d:=by
 intro d;induction d with
 | zero=>
  intro n Q m v l c p z L h D M C r;obtain⟨n,rfl⟩:∃k,n=k+9:=⟨n-9,by omega⟩;obtain⟨w,x,y⟩:=h;have b:=H7.len y;have a:=x.slice.len;rw [b] at a;have G:l=[]:=by
   cases l with
   | nil=>rfl
   | cons s l=>obtain⟨k,s,e,t,f⟩:=s;rw [aR,wh] at C;omega
  subst G;have E:=G7 p [dZ 135 [.nilPtr,nS]];have j:=XJ c (by omega) n fu (ext m [dZ 135 [.nilPtr,nS]]);obtain⟨M',o,H,I,J,K⟩:=XI (lo:=m.nx) E.ok (by rw [E.lim];exact z) (XK p) (by simp) (n+7) fu;refine⟨M',?_,⟨H,by rw [I];exact E.nx,J.trans E.lim,λi u=>(K i u).trans (E.old i u)⟩⟩;obtain⟨fu,rfl⟩:∃k,fu=k+1:=⟨fu-1,by omega⟩;rw [enter (sf:=f49) rfl rfl];simp [f49,tq,p9,H8,CP,a,j,o,bU]
 | succ d ih=>intro n Q m v l c p z L h D M C r;obtain⟨n,rfl⟩:∃k,n=k+9:=⟨n-9,by omega⟩;obtain⟨w,x,y⟩:=h;have b:=H7.len y;have a:=x.slice.len;rw [b] at a;have P:=bD l;have N:=oW l c D (by omega);have E:=G7 p [dZ 135 [.nilPtr,nS]];have j:=XJ c (by omega) n fu (ext m [dZ 135 [.nilPtr,nS]]);obtain⟨R,S,T,U,V,W,X,Y,Z,y9,M1,g,q,B⟩:=aaO (n:=n+6) F (by omega) (ih (n+8) (by omega)) p z L l c m.nx (J2 _) x y D M C r l.length 0 (by omega) .undef .undef .undef .undef .undef .undef .undef .undef .undef .undef (ext m [dZ 135 [.nilPtr,nS]]) fu E (XK p) (by omega);have O:I4 (λA m k=>tq (j6 KW fu (n+8)) fu none A m k) fu (aaq (iV (c:Int)) v (iV 0) (iV (l.length:Int)) .undef v .undef .undef .undef (.str (bR c)) (.ptr m.nx 0) .undef .undef .undef .undef .undef .undef (.str [])) (ext m [dZ 135 [.nilPtr,nS]]) []=_:=g;obtain⟨M',o,H,I,J,K⟩:=XI (lo:=m.nx) q.ok (by rw [q.lim];exact z) B (by omega) (n+7) fu;refine⟨M',?_,⟨H,by rw [I];exact q.nx,J.trans q.lim,λi u=>(K i u).trans (q.old i u)⟩⟩;rw [enter (sf:=f49) rfl rfl];simp [f49,H8,CP,a,j,O,o]
theorem XL {m:Mem}(j:m.Ok)(f:m.lim<=m.nx)(hb:13<=m.nx){v:d9}{l:List ak}(h:U2 m (λ_=>True) l v)(hp:Z0 l<=10000)(i:aR l<=26)(n fu:Nat)(r:120<=n)(a:20000<=fu):
  ∃m',j6 KW fu (n+1) (.func 16) [v] m=some [⟨.tuple [.str (if UK l=0 then bU l 0 else []),iV (UK l)],m'⟩]∧Ext m m':=by
 obtain⟨n,rfl⟩:∃k,n=k+1:=⟨n-1,by omega⟩;obtain⟨d,e,E1⟩:=XF j f h hp i n fu (by omega) a;by_cases c:UK l=0;obtain⟨s,p,q⟩:=Qs c;obtain⟨o,g,E2⟩:=aeN fu a 20 (n+1) (by omega) d v l 0 E1.ok (by rw [E1.lim];exact aP f E1.nx) (aP hb E1.nx) (U2.ext h E1) q (by omega) p (by omega);have b:j6 KW fu (n+1) (.func 49) [v,iV 0] d=_:=g;refine⟨o,?_,E1.trans E2⟩;rw [if_pos c,enter (sf:=f16) rfl rfl];simp [f16,e,c,b];refine⟨d,?_,E1⟩;rw [if_neg c,enter (sf:=f16) rfl rfl];simp [f16,e,c]
def arT:List (List UInt8×Int):=[([114,111,111,109],1),([107,110,111,119,110],1),([102,105,108,109],2),([103,97,117,103,101],8),([117,115,101],2),([108,111,97,110],4),([99,111,109,112,97,114,101],7),([109,105,120],3),([119,105,116,104,100,114,97,119],2),([115,101,110,100],1),([99,114,97,115,104],1),
 ([102,97,99,116,115],0),([108,111,119],2),([104,105,103,104],2),([99,111,117,110,116],2),([106,117,100,103,101],4),([101,120,112,108,97,105,110,101,100],0),([98,108,97,109,101],0),([113,117,97,114,114,101,108],2),([101,114,114,110,111],0)]
def arF:List (List UInt8×Int)->List UInt8->Int
 | [],_=>-1
 | p::l,s=>if s=p.1 then p.2 else arF l s
def arity (s:List UInt8):Int:=arF arT s
def aS (V:List (List UInt8))(s:List UInt8):Bool:=V.any λt=>decide (s=t)
mutual
def YS:Ex->List (List UInt8)->Int
 | .mk k n s a,V=>if k=2∧aS V s=false then 5 else if k=3∧arity s<0 then 5 else if k=3∧¬ arity s=(a.length:Int) then 1 else sN a V
def sN:List Ex->List (List UInt8)->Int
 | [],_=>0
 | e::l,V=>if YS e V=0 then sN l V else YS e V
end
def stK:ak->Int
 | .mk k _ _ _ _=>k
def aaP (s:ak)(V:List (List UInt8)):List (List UInt8):=if stK s=1 then V ++ [stN s] else V
mutual
def KY:ak->List (List UInt8)->Int
 | .mk k s e t f,V=>if ¬ sN e V=0 then sN e V else if k=2∧aS V s=false then 5 else if k=1∧aS V s=true then 6
   else if ¬ aj t (if k=1 then V ++ [s] else V)=0 then aj t (if k=1 then V ++ [s] else V) else aj f (if k=1 then V ++ [s] else V)
def aj:List ak->List (List UInt8)->Int
 | [],_=>0
 | s::l,V=>if KY s V=0 then aj l (aaP s V) else KY s V
end
mutual
theorem aeO:∀(e:Ex) (V W:List (List UInt8)),(∀x,aS V x=aS W x)->YS e V=YS e W
 | .mk k n s a,V,W,h=>by rw [YS,YS,h s,Di a V W h]
theorem Di:∀(l:List Ex) (V W:List (List UInt8)),(∀x,aS V x=aS W x)->sN l V=sN l W
 | [],V,W,h=>by rw [sN,sN]
 | e::l,V,W,h=>by rw [sN,sN,aeO e V W h,Di l V W h]
end
theorem wu (V:List (List UInt8))(s x:List UInt8):aS (V ++ [s]) x=(aS V x||decide (x=s)):=by simp [aS]
theorem KG {V W:List (List UInt8)}(h:∀x,aS V x=aS W x)(k:Int)(s:List UInt8):∀x,aS (if k=1 then V ++ [s] else V) x=aS (if k=1 then W ++ [s] else W) x:=by intro x;split;rw [wu,wu,h x];exact h x
mutual
theorem aeP:∀(s:ak) (V W:List (List UInt8)),(∀x,aS V x=aS W x)->KY s V=KY s W
 | .mk k s e t f,V,W,h=>by rw [KY,KY,Di e V W h,h s,zU t _ _ (KG h k s),zU f _ _ (KG h k s)]
theorem zU:∀(l:List ak) (V W:List (List UInt8)),(∀x,aS V x=aS W x)->aj l V=aj l W
 | [],V,W,h=>by rw [aj,aj]
 | .mk k s e t f::l,V,W,h=>by rw [aj,aj,aeP _ V W h];have:aj l (aaP (.mk k s e t f) V)=aj l (aaP (.mk k s e t f) W):=zU l _ _ (KG h k s);rw [this]
end
end Go.Proofs.YtfddpcckppibjaaGreatDoor.TT

