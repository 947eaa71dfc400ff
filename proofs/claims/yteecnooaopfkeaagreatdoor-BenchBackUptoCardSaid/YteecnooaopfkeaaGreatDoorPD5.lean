/- Well-formed statements, and how an expression is written, walked; conditions: the memory holds what the arguments say. -/
import Derived.Test.YteecnooaopfkeaaGreatDoorPD4
import Derived.Lib.ItoaNum
set_option linter.all false
namespace Go.Proofs.YteecnooaopfkeaaGreatDoor.TT
open Go Go.AM
set_option maxRecDepth 100000
set_option maxHeartbeats 8000000
def fmQ (k:Int)(e:List Ex)(t f:List V4):Prop:=e.length≠0∧(e.length<=1∨k=5)∧(t.length=0∨k=3∨k=4)∧(f.length=0∨k=3)∧(k≠6∨(e.map bL).head?=some 3)
theorem fB {k:Int}{s:List UInt8}{e:List Ex}{t f:List V4}(h:¬ fmQ k e t f):rF (.mk k s e t f)=false:=by
 cases hh:rF (.mk k s e t f) with
 | false=>rfl
 | true=>exfalso;apply h;simp only [rF,l9,aa2,decide_eq_true_eq] at hh;obtain⟨⟨⟨⟨⟨⟨⟨⟨⟨⟨j,l⟩,m⟩,b⟩,c⟩,d⟩,g⟩,i⟩,n⟩,o⟩,p⟩:=hh;exact⟨b,c,by rcases d with (a | a) | a<;>simp [a],g,i⟩
theorem xW {k:Int}{s:List UInt8}{e:List Ex}{t f:List V4}(h:fmQ k e t f)(p:1<=k)(q:k<=6)(hs:(if k=1∨k=2 then uQ s else decide (s=[]))=true):rF (.mk k s e t f)=(X0 e&&ay t&&ay f):=by
 obtain⟨a,b,c,d,x⟩:=h;have g:decide (1<=k)=true:=decide_eq_true p;have i:decide (k<=6)=true:=decide_eq_true q;have j:decide (e.length≠0)=true:=decide_eq_true a;have l:(decide (e.length<=1)||decide (k=5))=true:=by simpa using b
 have m:(decide (t.length=0)||decide (k=3)||decide (k=4))=true:=by rcases c with c | c | c<;>simp [c]
 have n:(decide (f.length=0)||decide (k=3))=true:=by rcases d with d | d<;>simp [d]
 have o:(decide (k≠6)||decide ((e.map bL).head?=some 3))=true:=by rcases x with x | x<;>simp [x]
 rw [rF,hs,g,i,j,l,m,n,o];simp
def C70 (n fu d:Nat):Prop:=∀(m:Mem) (row:List o7) (e:V4),m.Ok->m.lim<=m.nx->nI m (λ_=>True) e row->stP e<=10000->zO e<=d->
 ∃m',r9 KW fu n (.func 70) [.agg row] m=some [⟨.bool (rF e),m'⟩]∧Ext m m'
def CH (g:FuncId)(n fu d:Nat):Prop:=∀(m:Mem) (row:List o7) (e:V4),m.Ok->m.lim<=m.nx->nI m (λ_=>True) e row->stP e<=10000->zO e<=d->
 ∃m',r9 KW fu n (.func g) [.agg row] m=some [⟨.bool (!rF e),m'⟩]∧Ext m m'
theorem jO {n fu d:Nat}(b:C70 n fu d):CH 105 (n+1) fu d:=by
 intro m a e k j h o l;have p:=h.row;obtain⟨c,f⟩:=p;have E:=H7 k [o9 a];obtain⟨q,g,E1⟩:=b (ext m [o9 a]) a e E.ok (by rw [E.lim];exact gI j E.nx) (abQ E h) o l;refine⟨q,?_,E.trans E1⟩;have i:AO (some (o9 a)) 0 5=some (.agg a):=by rw [eX (by omega) (by omega),K9,L6 (by omega)]
 rw [enter (sf:=f105) rfl rfl];simp [f105,dF k j,H6,c,f,i,g]
theorem agf {n fu d:Nat}(b:C70 n fu d):CH 69 (n+1) fu d:=by
 intro m a e k j h o l;have p:=h.row;obtain⟨c,f⟩:=p;have E:=H7 k [o9 a];obtain⟨q,g,E1⟩:=b (ext m [o9 a]) a e E.ok (by rw [E.lim];exact gI j E.nx) (abQ E h) o l;refine⟨q,?_,E.trans E1⟩;have i:AO (some (o9 a)) 0 5=some (.agg a):=by rw [eX (by omega) (by omega),K9,L6 (by omega)]
 rw [enter (sf:=f69) rfl rfl];simp [f69,dF k j,H6,c,f,i,g]
theorem ZM {cl:FuncId}{n fu d:Nat}(G:CH cl (n+1) fu d){m:Mem}(U:m.Ok)(I:m.lim<=m.nx){v:o7}{rows:List (List o7)}(a:List V4)(B:rD m (λ_=>True) 5 v rows)(z:I4 m (λ_=>True) a rows)(L:V6 a<=10000)(T:cu a<=d):
  ∀(j i:Nat),i+j=a.length->∀(c k b:o7) (M:Mem) (N:Nat),Ext m M->j+1<=N->
  (ay (a.drop i)=true∧∃c' k' b' M',K8 (λenv m k=>qX (r9 KW fu (n+1)) fu none env m k) N (BL v (iV (i:Int)) (iV (a.length:Int)) c (.func (.func cl) [] []) k b (iV 0)) M []=some [⟨.exit 0,(BL v (iV (a.length:Int)) (iV (a.length:Int)) c' (.func (.func cl) [] []) k' b' (iV 0)),M',[],none⟩]∧Ext m M')∨
  (ay (a.drop i)=false∧∃(i' c' k' b':o7) (r':Nat) (M':Mem),K8 (λenv m k=>qX (r9 KW fu (n+1)) fu none env m k) N (BL v (iV (i:Int)) (iV (a.length:Int)) c (.func (.func cl) [] []) k b (iV 0)) M []=some [⟨.ret,(BL v i' (iV (a.length:Int)) c' (.func (.func cl) [] []) k' b' (iV (r':Int))),M',[],none⟩]∧Ext m M'):=by
 have u:=I4.len z;have J:=iq a;intro j;induction j with
 | zero=>
  intro i H c k b M N E D;obtain⟨N,rfl⟩:∃k,N=k+1:=⟨N-1,by omega⟩;obtain rfl:i=a.length:=by omega
  refine .inl ⟨by simp [ay],.bool false,k,b,M,?_,E⟩;rw [A8];simp [qX]
 | succ j ih=>
  intro i H c k b M N E D;obtain⟨N,rfl⟩:∃k,N=k+1:=⟨N-1,by omega⟩;have e:i<a.length:=by omega
  have f:i<rows.length:=by omega
  have g:(i:Int)<(a.length:Int):=by omega
  have C:=E.ok;have s:M.lim<=M.nx:=by rw [E.lim];exact gI I E.nx
  have t:a.drop i=a[i]::a.drop (i+1):=Z6 e;rw [t,ay];obtain⟨P,V,y,Q,R,A,S⟩:=(B.slice.ext E).at f;have h:=I4.get z i e f;have O:=h.row;have l:=A 0 5 (by omega) (by omega);rw [K9,L6 (by omega),Y7] at l;have K:=sG a i e;have F:=Br a i e;have o:nI M (λ_=>True) a[i] rows[i]:=abQ E h;generalize hX:a[i]=X at *;generalize hR:rows[i]=R1 at *;obtain⟨x,r,E2⟩:=G M R1 X C s o (by omega) (by omega);by_cases hf:rF X=true;rw [hf] at r;have w:=ih (i+1) (by omega) tt (iV (i:Int)) ff x N (E.trans E2) (by omega);have q:K8 (λenv m k=>qX (r9 KW fu (n+1)) fu none env m k) (N+1) (BL v (iV (i:Int)) (iV (a.length:Int)) c (.func (.func cl) [] []) k b (iV 0)) M []=K8 (λenv m k=>qX (r9 KW fu (n+1)) fu none env m k) N (BL v (.int .i64 ((i+1:Nat):Int)) (iV (a.length:Int)) tt (.func (.func cl) [] []) (iV (i:Int)) ff (iV 0)) x []:=by rw [A8];simp [qX,e,g,y,l,r,aF (i:=i) (by omega)]
  rw [q,hf,aeb];exact w;have p:rF X=false:=by simpa using hf
  rw [p] at r;refine .inr ⟨by rw [p];rfl,iV (i:Int),.bool true,iV (i:Int),.bool true,i,x,?_,E.trans E2⟩;rw [A8];simp [qX,e,g,y,l,r]
theorem sM {cl:FuncId}{n fu d:Nat}(u:20000<=fu)(w:CH cl (n+1) fu d){m:Mem}(p:m.Ok)(x:m.lim<=m.nx){v:o7}(a:List V4)(h:aG m (λ_=>True) a v)(l:V6 a<=10000)(t:cu a<=d):
  ∃m',r9 KW fu (n+3) (.func 68) [v,(.func (.func cl) [] [])] m=some [⟨.bool (!ay a),m'⟩]∧Ext m m':=by
 obtain⟨s,j,o⟩:=h;have f:=I4.len o;have c:=j.slice.len;rw [f] at c;have y:=iq a;have r:=Jp j.slice;rcases ZM (n:=n) (fu:=fu) w p x a j o l t a.length 0 (by omega) .undef .undef .undef m fu (Ext.refl p) (by omega) with⟨ha,c',k',b',M',g,q⟩ | ⟨ha,i',c',k',b',r',M',g,q⟩;have i:K8 (λe m k=>qX (r9 KW fu (n+1)) fu none e m k) fu (BL v (iV 0) (iV (a.length:Int)) .undef (.func (.func cl) [] []) .undef .undef (iV 0)) m []=_:=g;rw [K9] at ha;have b:r9 KW fu (n+2) (.func 103) [v,(.func (.func cl) [] [])] m=some [⟨iV (-1),M'⟩]:=by rw [enter (sf:=f103) rfl rfl];simp [f103,c,i,r]
 refine⟨M',?_,q⟩;rw [enter (sf:=f68) rfl rfl];simp [f68,b,ha];have i:K8 (λe m k=>qX (r9 KW fu (n+1)) fu none e m k) fu (BL v (iV 0) (iV (a.length:Int)) .undef (.func (.func cl) [] []) .undef .undef (iV 0)) m []=_:=g;rw [K9] at ha;have b:r9 KW fu (n+2) (.func 103) [v,(.func (.func cl) [] [])] m=some [⟨iV (r':Int),M'⟩]:=by rw [enter (sf:=f103) rfl rfl];simp [f103,c,i,r]
 have z:(0:Int)<=(r':Int):=by omega
 refine⟨M',?_,q⟩;rw [enter (sf:=f68) rfl rfl];simp [f68,b,ha,z]
theorem ZN {n fu d:Nat}(r:20000<=fu)(I:∀n,4*d+2<=n->ZK n fu d)(A:C70 (n+2) fu d)(hn:4*d<=n):C70 (n+6) fu (d+1):=by
 intro m ak s l j h hp hd;obtain⟨k0,M,e,t,f⟩:=s;obtain⟨v,U,T,re,rt,rf,rfl,Y,h2,h4,h5,h6,h7⟩:=h;have ov:=Y.slice.H6;have cv:=Y.slice.cells;have af:=h4.slice.H6;have a9:=h4.slice.cells;have ae:=h6.slice.H6;have a8:=h6.slice.cells;have o:=Jp Y.slice;have S:=I7.len h2;have a0:=Y.slice.len;rw [S] at a0;have a7:=h4.slice.len;rw [I4.len h5] at a7;have a6:=h6.slice.len;rw [I4.len h7] at a6;have c:=And.intro ov (And.intro af (And.intro ae (And.intro cv (And.intro a9 (And.intro a8 (And.intro a0 (And.intro a7 a6)))))));rw [stP] at hp;rw [zO] at hd;have E:=H7 l [o9 (r5 k0 M v U T)];have ai:=bU e;have aj:=iq t;have ah:=iq f;by_cases k1:k0<1;refine⟨_,?_,E⟩;have ac:¬ 1<=k0:=by omega
 rw [show rF (.mk k0 M e t f)=false by simp [rF,ac]];rw [enter (sf:=f70) rfl rfl];simp [f70,dF l j,H6,c,C8,o,k1];by_cases k2:6<k0;refine⟨_,?_,E⟩;have ad:¬ k0<=6:=by omega
 rw [show rF (.mk k0 M e t f)=false by simp [rF,ad]];rw [enter (sf:=f70) rfl rfl];simp [f70,dF l j,H6,c,C8,o,k1,k2];by_cases hN:k0=1∨k0=2
 ·rcases hN with rfl | rfl
  ·
   by_cases e0:e.length=0;refine⟨_,?_,E⟩;rw [fB (λq=>q.1 e0)];rw [enter (sf:=f70) rfl rfl];simp [f70,dF l j,H6,c,C8,o,e0];have B:0<e.length:=by omega
   have z:0<(e.length:Int):=by omega
   have x:¬ e=[]:=λh=>by simp [h] at e0
   have g:=And.intro B (And.intro z x);by_cases e1:1<(e.length:Int);refine⟨_,?_,E⟩;rw [fB (λq=>by rcases q.2.1 with q | q<;>omega)]
   rw [enter (sf:=f70) rfl rfl];simp [f70,dF l j,H6,c,C8,o,e0,g,e1];obtain⟨m1,p,E1⟩:=EX (n:=n) r E.ok (by rw [E.lim];exact gI j E.nx) M;have R:m1.get m.nx=some (o9 (r5 1 M v U T)):=(E1.old _ (by simp)).trans (by rw [F7 l];rfl);by_cases hb:uQ M=true
   case neg=>have Z:uQ M=false:=(by simpa using hb);refine⟨m1,?_,E.trans E1⟩;rw [show rF (.mk 1 M e t f)=false by simp [rF,Z]];rw [enter (sf:=f70) rfl rfl];simp [f70,dF l j,H6,c,C8,o,e0,g,e1,p,Z,R]
   by_cases e3:t.length=0
   case neg=>
    have O:0<(t.length:Int):=(by omega);have P:¬ t=[]:=λh=>(by simp [h] at e3);have Q:0<t.length:=(by omega);refine⟨_,?_,E.trans E1⟩;rw [fB (λq=>by rcases q.2.2.1 with q | q | q<;>omega)]
    rw [enter (sf:=f70) rfl rfl];simp [f70,dF l j,H6,c,C8,o,e0,g,e1,p,hb,R,e3,Q,O,P]
   by_cases e2:f.length=0
   case neg=>
    have J:0<(f.length:Int):=(by omega);have K:¬ f=[]:=λh=>(by simp [h] at e2);have L:0<f.length:=(by omega);refine⟨_,?_,E.trans E1⟩;rw [fB (λq=>by rcases q.2.2.2.1 with q | q<;>omega)]
    rw [enter (sf:=f70) rfl rfl];simp [f70,dF l j,H6,c,C8,o,e0,g,e1,p,hb,R,e3,e2,L,J,K]
   rw [xW (e:=e) ⟨e0,.inl (by omega),.inl e3,.inl e2,.inl (by omega)⟩ (by omega) (by omega) (by show _=_;simp [hb])];have E0:Ext m m1:=E.trans E1;obtain⟨M',a,q⟩:=zL (cl:=107) (n:=n+2) (fu:=fu) r (xV (I (n+2) (by omega))) E0.ok (by rw [E0.lim];exact gI j E0.nx) e ⟨re,rsE E0 Y,Ql E0 h2⟩ (by omega) (by omega);have k:M'.get m.nx=some (o9 (r5 1 M v U T)):=(q.old m.nx (J3 (by simp) E1.nx)).trans R;have E5:=E0.trans q;by_cases fe:X0 e=true
   case neg=>have C:X0 e=false:=(by simpa using fe);refine⟨M',?_,E5⟩;rw [C] at a ⊢;rw [enter (sf:=f70) rfl rfl];simp [f70,dF l j,H6,c,C8,o,e0,g,e1,p,hb,R,e3,e2,k,a]
   rw [fe] at a ⊢;have F:M'.lim<=M'.nx:=by rw [E5.lim];exact gI j E5.nx
   obtain⟨H,y,E2⟩:=sM (cl:=105) (n:=n+2) (fu:=fu) r (jO A) E5.ok F t ⟨rt,rsE E5 h4,Ev E5 h5⟩ (by omega) (by omega);have G:m.nx<M'.nx:=J3 (by simp) (gI E1.nx q.nx);have w:=(E2.old m.nx G).trans k;have E3:=E5.trans E2;by_cases ft:ay t=true
   case neg=>have D:ay t=false:=(by simpa using ft);refine⟨H,?_,E3⟩;rw [D] at y ⊢;rw [enter (sf:=f70) rfl rfl];simp [f70,dF l j,H6,c,C8,o,e0,g,e1,p,hb,R,e3,e2,k,w,a,y]
   rw [ft] at y ⊢;have u:H.lim<=H.nx:=by rw [E3.lim];exact gI j E3.nx
   obtain⟨m3,W,E4⟩:=sM (cl:=105) (n:=n+2) (fu:=fu) r (jO A) E3.ok u f ⟨rf,rsE E3 h6,Ev E3 h7⟩ (by omega) (by omega);refine⟨m3,?_,E3.trans E4⟩;rw [enter (sf:=f70) rfl rfl];simp [f70,dF l j,H6,c,C8,o,e0,g,e1,p,hb,R,e3,e2,k,w,a,y,W]
  ·
   by_cases e0:e.length=0;refine⟨_,?_,E⟩;rw [fB (λq=>q.1 e0)];rw [enter (sf:=f70) rfl rfl];simp [f70,dF l j,H6,c,C8,o,e0];have B:0<e.length:=by omega
   have z:0<(e.length:Int):=by omega
   have x:¬ e=[]:=λh=>by simp [h] at e0
   have g:=And.intro B (And.intro z x);by_cases e1:1<(e.length:Int);refine⟨_,?_,E⟩;rw [fB (λq=>by rcases q.2.1 with q | q<;>omega)]
   rw [enter (sf:=f70) rfl rfl];simp [f70,dF l j,H6,c,C8,o,e0,g,e1];obtain⟨m1,p,E1⟩:=EX (n:=n) r E.ok (by rw [E.lim];exact gI j E.nx) M;have R:m1.get m.nx=some (o9 (r5 2 M v U T)):=(E1.old _ (by simp)).trans (by rw [F7 l];rfl);by_cases hb:uQ M=true
   case neg=>have Z:uQ M=false:=(by simpa using hb);refine⟨m1,?_,E.trans E1⟩;rw [show rF (.mk 2 M e t f)=false by simp [rF,Z]];rw [enter (sf:=f70) rfl rfl];simp [f70,dF l j,H6,c,C8,o,e0,g,e1,p,Z,R]
   by_cases e3:t.length=0
   case neg=>
    have O:0<(t.length:Int):=(by omega);have P:¬ t=[]:=λh=>(by simp [h] at e3);have Q:0<t.length:=(by omega);refine⟨_,?_,E.trans E1⟩;rw [fB (λq=>by rcases q.2.2.1 with q | q | q<;>omega)]
    rw [enter (sf:=f70) rfl rfl];simp [f70,dF l j,H6,c,C8,o,e0,g,e1,p,hb,R,e3,Q,O,P]
   by_cases e2:f.length=0
   case neg=>
    have J:0<(f.length:Int):=(by omega);have K:¬ f=[]:=λh=>(by simp [h] at e2);have L:0<f.length:=(by omega);refine⟨_,?_,E.trans E1⟩;rw [fB (λq=>by rcases q.2.2.2.1 with q | q<;>omega)]
    rw [enter (sf:=f70) rfl rfl];simp [f70,dF l j,H6,c,C8,o,e0,g,e1,p,hb,R,e3,e2,L,J,K]
   rw [xW (e:=e) ⟨e0,.inl (by omega),.inl e3,.inl e2,.inl (by omega)⟩ (by omega) (by omega) (by show _=_;simp [hb])];have E0:Ext m m1:=E.trans E1;obtain⟨M',a,q⟩:=zL (cl:=107) (n:=n+2) (fu:=fu) r (xV (I (n+2) (by omega))) E0.ok (by rw [E0.lim];exact gI j E0.nx) e ⟨re,rsE E0 Y,Ql E0 h2⟩ (by omega) (by omega);have k:M'.get m.nx=some (o9 (r5 2 M v U T)):=(q.old m.nx (J3 (by simp) E1.nx)).trans R;have E5:=E0.trans q;by_cases fe:X0 e=true
   case neg=>have C:X0 e=false:=(by simpa using fe);refine⟨M',?_,E5⟩;rw [C] at a ⊢;rw [enter (sf:=f70) rfl rfl];simp [f70,dF l j,H6,c,C8,o,e0,g,e1,p,hb,R,e3,e2,k,a]
   rw [fe] at a ⊢;have F:M'.lim<=M'.nx:=by rw [E5.lim];exact gI j E5.nx
   obtain⟨H,y,E2⟩:=sM (cl:=105) (n:=n+2) (fu:=fu) r (jO A) E5.ok F t ⟨rt,rsE E5 h4,Ev E5 h5⟩ (by omega) (by omega);have G:m.nx<M'.nx:=J3 (by simp) (gI E1.nx q.nx);have w:=(E2.old m.nx G).trans k;have E3:=E5.trans E2;by_cases ft:ay t=true
   case neg=>have D:ay t=false:=(by simpa using ft);refine⟨H,?_,E3⟩;rw [D] at y ⊢;rw [enter (sf:=f70) rfl rfl];simp [f70,dF l j,H6,c,C8,o,e0,g,e1,p,hb,R,e3,e2,k,w,a,y]
   rw [ft] at y ⊢;have u:H.lim<=H.nx:=by rw [E3.lim];exact gI j E3.nx
   obtain⟨m3,W,E4⟩:=sM (cl:=105) (n:=n+2) (fu:=fu) r (jO A) E3.ok u f ⟨rf,rsE E3 h6,Ev E3 h7⟩ (by omega) (by omega);refine⟨m3,?_,E3.trans E4⟩;rw [enter (sf:=f70) rfl rfl];simp [f70,dF l j,H6,c,C8,o,e0,g,e1,p,hb,R,e3,e2,k,w,a,y,W]
 have n1:¬ k0=1:=by omega
 have n2:¬ k0=2:=by omega
 by_cases hs:M=[]
 case neg=>
  have aa:rF (.mk k0 M e t f)=false:=by simp [rF,hs,n1,n2]
  refine⟨_,?_,E⟩;rw [aa];by_cases e0:e.length=0;rw [enter (sf:=f70) rfl rfl];simp [f70,dF l j,H6,c,C8,o,k1,k2,n1,n2,hs,e0];have z:¬ (e.length:Int)=0:=by omega
  have x:¬ e=[]:=λh=>by simp [h] at e0
  by_cases e1:1<(e.length:Int);by_cases k5:k0=5;subst k5;rw [enter (sf:=f70) rfl rfl];simp [f70,dF l j,H6,c,C8,o,hs,e0,x,e1];rw [enter (sf:=f70) rfl rfl];simp [f70,dF l j,H6,c,C8,o,k1,k2,n1,n2,hs,e0,x,e1,k5];rw [enter (sf:=f70) rfl rfl];simp [f70,dF l j,H6,c,C8,o,k1,k2,n1,n2,hs,e0,x,e1]
 subst hs;have hk:k0=3∨k0=4∨k0=5∨k0=6:=by omega
 rcases hk with rfl | rfl | rfl | rfl
 ·
  by_cases e0:e.length=0;refine⟨_,?_,E⟩;rw [fB (λq=>q.1 e0)];rw [enter (sf:=f70) rfl rfl];simp [f70,dF l j,H6,c,C8,o,e0];have B:0<e.length:=by omega
  have z:0<(e.length:Int):=by omega
  have x:¬ e=[]:=λh=>by simp [h] at e0
  have g:=And.intro B (And.intro z x);by_cases e1:1<(e.length:Int);refine⟨_,?_,E⟩;rw [fB (λq=>by rcases q.2.1 with q | q<;>omega)]
  rw [enter (sf:=f70) rfl rfl];simp [f70,dF l j,H6,c,C8,o,e0,g,e1];obtain⟨bt,z1,z2⟩:∃b:Bool,decide (0<(t.length:Int))=b∧decide (0<t.length)=b:=⟨_,rfl,by simp⟩;cases bt;all_goals (
  obtain⟨bf,z3,z4⟩:∃b:Bool,decide (0<(f.length:Int))=b∧decide (0<f.length)=b:=⟨_,rfl,by simp⟩;cases bf;all_goals (
  rw [xW (e:=e) ⟨e0,.inl (by omega),.inr (.inl rfl),.inr rfl,.inl (by omega)⟩ (by omega) (by omega) (by simp)];have E0:Ext m (ext m [o9 (r5 3 [] v U T)]):=E;obtain⟨M',a,q⟩:=zL (cl:=107) (n:=n+2) (fu:=fu) r (xV (I (n+2) (by omega))) E0.ok (by rw [E0.lim];exact gI j E0.nx) e ⟨re,rsE E0 Y,Ql E0 h2⟩ (by omega) (by omega);have k:M'.get m.nx=some (o9 (r5 3 [] v U T)):=(q.old m.nx (by simp)).trans (by rw [F7 l];rfl);have E5:=E0.trans q;by_cases fe:X0 e=true
  case neg=>
   have C:X0 e=false:=by simpa using fe
   refine⟨M',?_,E5⟩;rw [C] at a ⊢;rw [enter (sf:=f70) rfl rfl];simp [f70,dF l j,H6,c,C8,o,e0,g,e1,z1,z2,z3,z4,k,a]
  rw [fe] at a ⊢;have F:M'.lim<=M'.nx:=by rw [E5.lim];exact gI j E5.nx
  obtain⟨H,y,E2⟩:=sM (cl:=105) (n:=n+2) (fu:=fu) r (jO A) E5.ok F t ⟨rt,rsE E5 h4,Ev E5 h5⟩ (by omega) (by omega);have G:m.nx<M'.nx:=J3 (by simp) (gI (aP _) q.nx);have w:=(E2.old m.nx G).trans k;have E3:=E5.trans E2;by_cases ft:ay t=true
  case neg=>
   have D:ay t=false:=by simpa using ft
   refine⟨H,?_,E3⟩;rw [D] at y ⊢;rw [enter (sf:=f70) rfl rfl];simp [f70,dF l j,H6,c,C8,o,e0,g,e1,z1,z2,z3,z4,k,w,a,y]
  rw [ft] at y ⊢;have u:H.lim<=H.nx:=by rw [E3.lim];exact gI j E3.nx
  obtain⟨m3,W,E4⟩:=sM (cl:=105) (n:=n+2) (fu:=fu) r (jO A) E3.ok u f ⟨rf,rsE E3 h6,Ev E3 h7⟩ (by omega) (by omega);refine⟨m3,?_,E3.trans E4⟩;rw [enter (sf:=f70) rfl rfl];simp [f70,dF l j,H6,c,C8,o,e0,g,e1,z1,z2,z3,z4,k,w,a,y,W]))
 ·
  by_cases e0:e.length=0;refine⟨_,?_,E⟩;rw [fB (λq=>q.1 e0)];rw [enter (sf:=f70) rfl rfl];simp [f70,dF l j,H6,c,C8,o,e0];have B:0<e.length:=by omega
  have z:0<(e.length:Int):=by omega
  have x:¬ e=[]:=λh=>by simp [h] at e0
  have g:=And.intro B (And.intro z x);by_cases e1:1<(e.length:Int);refine⟨_,?_,E⟩;rw [fB (λq=>by rcases q.2.1 with q | q<;>omega)]
  rw [enter (sf:=f70) rfl rfl];simp [f70,dF l j,H6,c,C8,o,e0,g,e1];obtain⟨bt,z1,z2⟩:∃b:Bool,decide (0<(t.length:Int))=b∧decide (0<t.length)=b:=⟨_,rfl,by simp⟩;cases bt;all_goals (
  by_cases e2:f.length=0
  case neg=>
   have J:0<(f.length:Int):=by omega
   have K:¬ f=[]:=λh=>by simp [h] at e2
   have L:0<f.length:=by omega
   refine⟨_,?_,E⟩;rw [fB (λq=>by rcases q.2.2.2.1 with q | q<;>omega)]
   rw [enter (sf:=f70) rfl rfl];simp [f70,dF l j,H6,c,C8,o,e0,g,e1,z1,z2,e2,L,J,K]
  rw [xW (e:=e) ⟨e0,.inl (by omega),.inr (.inr rfl),.inl e2,.inl (by omega)⟩ (by omega) (by omega) (by simp)];have E0:Ext m (ext m [o9 (r5 4 [] v U T)]):=E;obtain⟨M',a,q⟩:=zL (cl:=107) (n:=n+2) (fu:=fu) r (xV (I (n+2) (by omega))) E0.ok (by rw [E0.lim];exact gI j E0.nx) e ⟨re,rsE E0 Y,Ql E0 h2⟩ (by omega) (by omega);have k:M'.get m.nx=some (o9 (r5 4 [] v U T)):=(q.old m.nx (by simp)).trans (by rw [F7 l];rfl);have E5:=E0.trans q;by_cases fe:X0 e=true
  case neg=>
   have C:X0 e=false:=by simpa using fe
   refine⟨M',?_,E5⟩;rw [C] at a ⊢;rw [enter (sf:=f70) rfl rfl];simp [f70,dF l j,H6,c,C8,o,e0,g,e1,z1,z2,e2,k,a]
  rw [fe] at a ⊢;have F:M'.lim<=M'.nx:=by rw [E5.lim];exact gI j E5.nx
  obtain⟨H,y,E2⟩:=sM (cl:=105) (n:=n+2) (fu:=fu) r (jO A) E5.ok F t ⟨rt,rsE E5 h4,Ev E5 h5⟩ (by omega) (by omega);have G:m.nx<M'.nx:=J3 (by simp) (gI (aP _) q.nx);have w:=(E2.old m.nx G).trans k;have E3:=E5.trans E2;by_cases ft:ay t=true
  case neg=>
   have D:ay t=false:=by simpa using ft
   refine⟨H,?_,E3⟩;rw [D] at y ⊢;rw [enter (sf:=f70) rfl rfl];simp [f70,dF l j,H6,c,C8,o,e0,g,e1,z1,z2,e2,k,w,a,y]
  rw [ft] at y ⊢;have u:H.lim<=H.nx:=by rw [E3.lim];exact gI j E3.nx
  obtain⟨m3,W,E4⟩:=sM (cl:=105) (n:=n+2) (fu:=fu) r (jO A) E3.ok u f ⟨rf,rsE E3 h6,Ev E3 h7⟩ (by omega) (by omega);refine⟨m3,?_,E3.trans E4⟩;rw [enter (sf:=f70) rfl rfl];simp [f70,dF l j,H6,c,C8,o,e0,g,e1,z1,z2,e2,k,w,a,y,W])
 ·
  by_cases e0:e.length=0;refine⟨_,?_,E⟩;rw [fB (λq=>q.1 e0)];rw [enter (sf:=f70) rfl rfl];simp [f70,dF l j,H6,c,C8,o,e0];have B:0<e.length:=by omega
  have z:0<(e.length:Int):=by omega
  have x:¬ e=[]:=λh=>by simp [h] at e0
  have g:=And.intro B (And.intro z x);by_cases e1:1<(e.length:Int);all_goals (
  by_cases e3:t.length=0
  case neg=>
   have O:0<(t.length:Int):=by omega
   have P:¬ t=[]:=λh=>by simp [h] at e3
   have Q:0<t.length:=by omega
   refine⟨_,?_,E⟩;rw [fB (λq=>by rcases q.2.2.1 with q | q | q<;>omega)]
   rw [enter (sf:=f70) rfl rfl];simp [f70,dF l j,H6,c,C8,o,e0,g,e1,e3,Q,O,P]
  by_cases e2:f.length=0
  case neg=>
   have J:0<(f.length:Int):=by omega
   have K:¬ f=[]:=λh=>by simp [h] at e2
   have L:0<f.length:=by omega
   refine⟨_,?_,E⟩;rw [fB (λq=>by rcases q.2.2.2.1 with q | q<;>omega)]
   rw [enter (sf:=f70) rfl rfl];simp [f70,dF l j,H6,c,C8,o,e0,g,e1,e3,e2,L,J,K]
  rw [xW (e:=e) ⟨e0,.inr rfl,.inl e3,.inl e2,.inl (by omega)⟩ (by omega) (by omega) (by simp)];have E0:Ext m (ext m [o9 (r5 5 [] v U T)]):=E;obtain⟨M',a,q⟩:=zL (cl:=107) (n:=n+2) (fu:=fu) r (xV (I (n+2) (by omega))) E0.ok (by rw [E0.lim];exact gI j E0.nx) e ⟨re,rsE E0 Y,Ql E0 h2⟩ (by omega) (by omega);have k:M'.get m.nx=some (o9 (r5 5 [] v U T)):=(q.old m.nx (by simp)).trans (by rw [F7 l];rfl);have E5:=E0.trans q;by_cases fe:X0 e=true
  case neg=>
   have C:X0 e=false:=by simpa using fe
   refine⟨M',?_,E5⟩;rw [C] at a ⊢;rw [enter (sf:=f70) rfl rfl];simp [f70,dF l j,H6,c,C8,o,e0,g,e1,e3,e2,k,a]
  rw [fe] at a ⊢;have F:M'.lim<=M'.nx:=by rw [E5.lim];exact gI j E5.nx
  obtain⟨H,y,E2⟩:=sM (cl:=105) (n:=n+2) (fu:=fu) r (jO A) E5.ok F t ⟨rt,rsE E5 h4,Ev E5 h5⟩ (by omega) (by omega);have G:m.nx<M'.nx:=J3 (by simp) (gI (aP _) q.nx);have w:=(E2.old m.nx G).trans k;have E3:=E5.trans E2;by_cases ft:ay t=true
  case neg=>
   have D:ay t=false:=by simpa using ft
   refine⟨H,?_,E3⟩;rw [D] at y ⊢;rw [enter (sf:=f70) rfl rfl];simp [f70,dF l j,H6,c,C8,o,e0,g,e1,e3,e2,k,w,a,y]
  rw [ft] at y ⊢;have u:H.lim<=H.nx:=by rw [E3.lim];exact gI j E3.nx
  obtain⟨m3,W,E4⟩:=sM (cl:=105) (n:=n+2) (fu:=fu) r (jO A) E3.ok u f ⟨rf,rsE E3 h6,Ev E3 h7⟩ (by omega) (by omega);refine⟨m3,?_,E3.trans E4⟩;rw [enter (sf:=f70) rfl rfl];simp [f70,dF l j,H6,c,C8,o,e0,g,e1,e3,e2,k,w,a,y,W])
 ·
  by_cases e0:e.length=0;refine⟨_,?_,E⟩;rw [fB (λq=>q.1 e0)];rw [enter (sf:=f70) rfl rfl];simp [f70,dF l j,H6,c,C8,o,e0];have B:0<e.length:=by omega
  have z:0<(e.length:Int):=by omega
  have x:¬ e=[]:=λh=>by simp [h] at e0
  have g:=And.intro B (And.intro z x);by_cases e1:1<(e.length:Int);refine⟨_,?_,E⟩;rw [fB (λq=>by rcases q.2.1 with q | q<;>omega)]
  rw [enter (sf:=f70) rfl rfl];simp [f70,dF l j,H6,c,C8,o,e0,g,e1];by_cases e3:t.length=0
  case neg=>
   have O:0<(t.length:Int):=by omega
   have P:¬ t=[]:=λh=>by simp [h] at e3
   have Q:0<t.length:=by omega
   refine⟨_,?_,E⟩;rw [fB (λq=>by rcases q.2.2.1 with q | q | q<;>omega)]
   rw [enter (sf:=f70) rfl rfl];simp [f70,dF l j,H6,c,C8,o,e0,g,e1,e3,Q,O,P]
  by_cases e2:f.length=0
  case neg=>
   have J:0<(f.length:Int):=by omega
   have K:¬ f=[]:=λh=>by simp [h] at e2
   have L:0<f.length:=by omega
   refine⟨_,?_,E⟩;rw [fB (λq=>by rcases q.2.2.2.1 with q | q<;>omega)]
   rw [enter (sf:=f70) rfl rfl];simp [f70,dF l j,H6,c,C8,o,e0,g,e1,e3,e2,L,J,K]
  obtain⟨X,rfl⟩:∃X,e=[X]:=ahN.1 (by omega);obtain⟨kx,nx,sx,ax⟩:=X;obtain⟨ab,o1,a1,a2,a3,a4,a5⟩:=(Y.slice.ext E).at (i:=0) (by rw [S];simp);obtain⟨vx,ag,rx,_,_⟩:=I7.get h2 0 (by simp) (by rw [S];simp);rw [rx] at a5;have N:=a5 0 (by omega);have V:=a1;simp at V;rw [Y7] at N;have N:ld1 ((ext m [o9 (r5 6 [] v U T)]).get ab) o1=some (iV kx):=N;by_cases e4:kx=3
  case neg=>refine⟨_,?_,E⟩;rw [fB (λq=>q.2.2.2.2.elim (λq=>by omega) (λq=>by simp [bL] at q;exact e4 q))];rw [enter (sf:=f70) rfl rfl];simp [f70,dF l j,H6,c,C8,o,e0,g,e1,e3,e2,e4,V,N]
  subst e4;rw [xW (e:=[(Ex.mk 3 nx sx ax)]) ⟨e0,.inl (by omega),.inl e3,.inl e2,.inr rfl⟩ (by omega) (by omega) (by simp)];have E0:Ext m (ext m [o9 (r5 6 [] v U T)]):=E;obtain⟨M',a,q⟩:=zL (cl:=107) (n:=n+2) (fu:=fu) r (xV (I (n+2) (by omega))) E0.ok (by rw [E0.lim];exact gI j E0.nx) [(Ex.mk 3 nx sx ax)] ⟨re,rsE E0 Y,Ql E0 h2⟩ (by omega) (by omega);have k:M'.get m.nx=some (o9 (r5 6 [] v U T)):=(q.old m.nx (by simp)).trans (by rw [F7 l];rfl);have E5:=E0.trans q;by_cases fe:X0 [(Ex.mk 3 nx sx ax)]=true
  case neg=>
   have C:X0 [(Ex.mk 3 nx sx ax)]=false:=by simpa using fe
   refine⟨M',?_,E5⟩;rw [C] at a ⊢;rw [enter (sf:=f70) rfl rfl];simp [f70,dF l j,H6,c,C8,o,e3,e2,V,N,k,a]
  rw [fe] at a ⊢;have F:M'.lim<=M'.nx:=by rw [E5.lim];exact gI j E5.nx
  obtain⟨H,y,E2⟩:=sM (cl:=105) (n:=n+2) (fu:=fu) r (jO A) E5.ok F t ⟨rt,rsE E5 h4,Ev E5 h5⟩ (by omega) (by omega);have G:m.nx<M'.nx:=J3 (by simp) (gI (aP _) q.nx);have w:=(E2.old m.nx G).trans k;have E3:=E5.trans E2;by_cases ft:ay t=true
  case neg=>
   have D:ay t=false:=by simpa using ft
   refine⟨H,?_,E3⟩;rw [D] at y ⊢;rw [enter (sf:=f70) rfl rfl];simp [f70,dF l j,H6,c,C8,o,e3,e2,V,N,k,w,a,y]
  rw [ft] at y ⊢;have u:H.lim<=H.nx:=by rw [E3.lim];exact gI j E3.nx
  obtain⟨m3,W,E4⟩:=sM (cl:=105) (n:=n+2) (fu:=fu) r (jO A) E3.ok u f ⟨rf,rsE E3 h6,Ev E3 h7⟩ (by omega) (by omega);refine⟨m3,?_,E3.trans E4⟩;rw [enter (sf:=f70) rfl rfl];simp [f70,dF l j,H6,c,C8,o,e3,e2,V,N,k,w,a,y,W]
theorem agh (fu:Nat)(a:20000<=fu):∀d n:Nat,4*d+2<=n->C70 n fu d:=by
 intro d;induction d with
 | zero=>intro n b m g s j i h l c;obtain⟨o,p,e,t,f⟩:=s;rw [zO] at c;omega
 | succ d ih=>intro n b;obtain⟨n,rfl⟩:∃k,n=k+6:=⟨n-6,by omega⟩;exact ZN a (λn b=>acC fu a d n b) (ih (n+2) (by omega)) (by omega)
noncomputable section
def bI (k:Int):Int:=if k=18 then 0 else if k=17 then 1 else if k=5 then 2 else if 11<=k∧k<=16 then 3 else if k=9∨k=10 then 4 else if 6<=k∧k<=8 then 5 else if k=4 then 6 else 7
def SQ (k:Int):List UInt8:=if k=6 then [42] else if k=7 then [47] else if k=8 then [37] else if k=9 then [43] else if k=10 then [45] else if k=11 then [60] else if k=12 then [60,61] else if k=13 then [62] else if k=14 then [62,61] else if k=15 then [61,61] else if k=16 then [33,61] else if k=17 then [97,110,100] else if k=18 then [111,114] else []
def gu (least:Int)(p:Int×List UInt8):List UInt8:=if bI p.1<least then 40::(p.2 ++ [41]) else p.2
def sN (k n:Int)(s:List UInt8)(l:List (Int×List UInt8)):List UInt8:=
 if k=1 then Lib.itoa n else if k=2 then s else if k=3 then s++(40::(aI [44,32] (l.map (·.2)) ++ [41]))
 else if k=4 then 45::gu 6 (l.getD 0 (0,[])) else if k=5 then [110,111,116,32]++gu 2 (l.getD 0 (0,[]))
 else gu (if bI k=3 then 4 else bI k) (l.getD 0 (0,[]))++(32::(SQ k++(32::gu (bI k+1) (l.getD 1 (0,[])))))
mutual
def fF:Ex->List UInt8
 | .mk k n s a=>sN k n s (sQ a)
def sQ:List Ex->List (Int×List UInt8)
 | []=>[]
 | e::l=>(bL e,fF e)::sQ l
end
theorem Nn:∀l:List Ex,sQ l=l.map λe=>(bL e,fF e)
 | []=>rfl
 | e::l=>by rw [sQ,Nn l];rfl
def kE (l:List Ex):List UInt8:=aI [44,32] (l.map fF)
theorem Ut:∀(k n:Nat),n<10^(k+1)->(Lib.decDigits n).length<=k+1
 | 0,n,h=>by rw [Lib.decDigits,dif_pos (by simpa using h)];simp
 | k+1,n,h=>by rw [Lib.decDigits];split;simp;have:=Ut k (n / 10) (by rw [alY] at h;omega);simp;omega
theorem SS {n:Int}(h0:0<=n)(a:n<=9007199254740992):(Lib.itoa n).length<=16:=by
 rw [Lib.itoa,if_neg (by omega)]
 exact Ut 15 n.toNat (by have:(10:Nat)^(15+1)=10000000000000000:=by decide
                         omega)
theorem Da (sep:List UInt8):∀l:List (List UInt8),(aI sep l).length<=(l.map λs=>s.length+sep.length).sum
 | []=>aP _
 | [s]=>by show s.length<=_;simp
 | s::t::l=>by have:=Da sep (t::l);show (aJ s (aJ sep (aI sep (t::l)))).length<=_;rw [P8,P8,J9,J9,Z5,afq];omega
theorem acD {p:Prop} [Decidable p]{a b:List UInt8}{n:Nat}(c:a.length<=n)(hb:b.length<=n):(if p then a else b).length<=n:=by split<;>assumption
theorem Uu (k:Int):(SQ k).length<=3:=by
 unfold SQ;repeat' apply acD
 all_goals decide
theorem ni (m:Int)(p:Int×List UInt8):(gu m p).length<=p.2.length+2:=by unfold gu;split<;>simp
theorem EZ {s:List UInt8}(h:uQ s=true):s.length<=16:=by simp only [uQ,l9,decide_eq_true_eq] at h;omega
theorem Qy:∀(l:List (Int×List UInt8)) (i:Nat),(l.getD i (0,[])).2.length<=(l.map λp=>p.2.length).sum
 | [],i=>by simp
 | p::l,0=>by simp
 | p::l,i+1=>by have:=Qy l i;simp at this ⊢;omega
theorem WE:∀(l:List (Int×List UInt8)),(l.getD 0 (0,[])).2.length+(l.getD 1 (0,[])).2.length<=(l.map λp=>p.2.length).sum
 | []=>by simp
 | [p]=>by simp
 | p::q::l=>by simp
mutual
theorem uy:∀e:Ex,je e=true->(fF e).length+4<=40*ng e
 | .mk k n s a,h=>by
  rw [fF,ng];have hs:k=2∨k=3->s.length<=16:=λhk=>by simp only [je,l9,decide_eq_true_eq] at h;rw [if_pos hk] at h;exact EZ h.1.2
  have hn:k=1->0<=n∧n<=9007199254740992:=λhk=>by simp only [je,l9,decide_eq_true_eq] at h;rw [if_pos hk] at h;simpa using h.1.1.2
  have ha:X0 a=true:=by simp only [je,l9] at h;exact h.2
  have hl:=Np a ha;have hj:((aI [44,32] ((sQ a).map (·.2))).length)<=((sQ a).map λp=>p.2.length).sum+2*a.length:=by
   have:=Da [44,32] ((sQ a).map (·.2));rw [ae5] at this;have e:∀l:List Ex,(List.map ((λs:List UInt8=>s.length + [(44:UInt8),32].length)∘λx:Int×List UInt8=>x.2) (sQ l)).sum=((sQ l).map λp=>p.2.length).sum+2*l.length:=by
    intro l;induction l with
    | nil=>rfl
    | cons x l ih=>rw [sQ,Z5,afq,ih,Z5,afq,J6];simp;omega
   rw [e] at this;exact this
  have g0:=Qy (sQ a) 0;have g1:=WE (sQ a);unfold sN;split;rename_i hk;have:=SS (hn hk).1 (hn hk).2;omega
  split;rename_i hk;have:=hs (.inl hk);omega
  split;rename_i hk;have:=hs (.inr hk);simp only [J9,J6,aay];omega
  split;have:=ni 6 ((sQ a).getD 0 (0,[]));rw [J6];omega;split;have:=ni 2 ((sQ a).getD 0 (0,[]));simp only [J9,J6,aay];omega;have p1:=ni (if bI k=3 then 4 else bI k) ((sQ a).getD 0 (0,[]));have p2:=ni (bI k+1) ((sQ a).getD 1 (0,[]));have p3:=Uu k;simp only [J9,J6];omega
theorem Np:∀l:List Ex,X0 l=true->((sQ l).map λp=>p.2.length).sum+4*l.length<=40*U1 l
 | [],_=>by simp [sQ,U1]
 | e::l,h=>by rw [X0,l9] at h;have h1:=uy e h.1;have h2:=Np l h.2;rw [sQ,U1,Z5,afq,J6];show (fF e).length + _ + _<=_;omega
end
theorem Fa (l:List Ex)(h:X0 l=true):(kE l).length<=40*U1 l:=by
 have b:=Np l h;have a:=Da [44,32] (l.map fF);have e:∀l:List Ex,((l.map fF).map λs=>s.length + [(44:UInt8),32].length).sum=((sQ l).map λp=>p.2.length).sum+2*l.length:=by
  intro l;induction l with
  | nil=>rfl
  | cons x l ih=>rw [sQ,Z5,Z5,afq,ih,Z5,afq,J6];simp;omega
 rw [e] at a;show (aI [44,32] (l.map fF)).length<=_;omega
def cK (d:Nat):List UInt8:=List.replicate (2*d) 32
mutual
def Ic:V4->Nat->List UInt8
 | .mk k s e t f,d=>
  if k=1 then cK d++([108,101,116,32]++(s++([32,61,32]++(kE e ++ [59,10]))))
  else if k=2 then cK d++(s++([32,61,32]++(kE e ++ [59,10])))
  else if k=5 then cK d++([112,114,105,110,116,32]++(kE e ++ [59,10]))
  else if k=6 then cK d++(kE e ++ [59,10])
  else if k=4 then cK d++([119,104,105,108,101,32]++(kE e++([32,123,10]++(bN t (d+1)++(cK d ++ [125,10])))))
  else cK d++([105,102,32]++(kE e++([32,123,10]++(bN t (d+1)++((if 0<f.length then cK d++([125,32,101,108,115,101,32,123,10]++bN f (d+1)) else [])++(cK d ++ [125,10]))))))
def bN:List V4->Nat->List UInt8
 | [],_=>[]
 | s::l,d=>Ic s d++bN l d
end
mutual
theorem acE:∀(s:V4) (d:Nat),rF s=true->d+zO s<=100->(Ic s d).length<=700*stP s
 | .mk k s e t f,d,h,hd=>by
  have h':=h;simp only [rF,l9,decide_eq_true_eq] at h;obtain⟨⟨⟨⟨⟨⟨⟨⟨⟨⟨a1,a2⟩,a3⟩,a4⟩,a5⟩,a6⟩,a7⟩,a8⟩,a9⟩,b1⟩,b2⟩:=h;rw [zO] at hd;have h1:=Fa e a9;have h2:=pW t (d+1) b1 (by omega);have h3:=pW f (d+1) b2 (by omega);have hi:(cK d).length<=200:=by rw [cK,List.length_replicate];omega
  have hs:s.length<=16:=by
   split at a3;exact EZ a3;have:s=[]:=by simpa using a3
   simp [this]
  rw [Ic,stP];repeat' split
  all_goals simp only [J9,J6,aay]
  all_goals omega
theorem pW:∀(l:List V4) (d:Nat),ay l=true->d+cu l<=100->(bN l d).length<=700*V6 l
 | [],d,_,_=>by simp [bN]
 | s::l,d,h,hd=>by rw [ay,l9] at h;rw [cu] at hd;have h1:=acE s d h.1 (by omega);have h2:=pW l d h.2 (by omega);rw [bN,V6,J9];omega
end
end
def ZO (l:List V4):Int:=if (nK l).1<0 then 2 else if ay l=true then 0 else 1
theorem SV {l:List V4}(h:ZO l=0):V6 l<=500∧cu l<=20∧ay l=true:=by
 unfold ZO nK at h;by_cases c:V6 l<=500∧cu l<=20;rw [if_pos c] at h;have:¬ ((V6 l:Int),(cu l:Int)).1<0:=by simp
 rw [if_neg this] at h;by_cases f:ay l=true;exact⟨c.1,c.2,f⟩;rw [if_neg f] at h;omega;rw [if_neg c] at h;simp at h
theorem agi {m:Mem}(q:m.Ok)(e:m.lim<=m.nx){v:o7}{l:List V4}(h:aG m (λ_=>True) l v)(hp:V6 l<=10000)(p:cu l<=26)(n fu:Nat)(s:110<=n)(d:20000<=fu):
  ∃m',r9 KW fu (n+1) (.func 33) [v] m=some [⟨iV (ZO l),m'⟩]∧Ext m m':=by
 obtain⟨n,rfl⟩:∃k,n=k+60:=⟨n-60,by omega⟩;obtain⟨g,j,E1⟩:=Zn q e h hp (n+10) fu d;obtain⟨r,o,E2⟩:=sM (cl:=69) (n:=n+57) (fu:=fu) d (agf (agh fu d 26 (n+57) (by omega))) E1.ok (by rw [E1.lim];exact gI e E1.nx) l (aG.ext h E1) hp p;have b:r9 KW fu (n+60) (.func 15) [v] m=_:=j;have a:r9 KW fu (n+60) (.func 68) [v,.func (.func 69) [] []] g=_:=o;unfold ZO;by_cases c:(nK l).1<0;refine⟨g,?_,E1⟩;rw [if_pos c,enter (sf:=f33) rfl rfl];simp [f33,b,c];refine⟨r,?_,E1.trans E2⟩;rw [if_neg c,enter (sf:=f33) rfl rfl];by_cases f:ay l=true;rw [if_pos f];rw [f] at a;simp [f33,b,c,a];have i:ay l=false:=by simpa using f
 rw [if_neg f];rw [i] at a;simp [f33,b,c,a]
theorem Uv (k:Int)(n fu:Nat)(m:Mem):r9 KW fu (n+1) (.func 176) [iV k] m=some [⟨iV (bI k),m⟩]:=by
 rw [enter (sf:=f176) rfl rfl];by_cases h:4<=k∧k<=18;have u:k=4∨k=5∨k=6∨k=7∨k=8∨k=9∨k=10∨k=11∨k=12∨k=13∨k=14∨k=15∨k=16∨k=17∨k=18:=by omega
 rcases u with rfl | rfl | rfl | rfl | rfl | rfl | rfl | rfl | rfl | rfl | rfl | rfl | rfl | rfl | rfl<;>rfl
 have e:bI k=7:=by unfold bI;rw [if_neg (by omega),if_neg (by omega),if_neg (by omega),if_neg (by omega),if_neg (by omega),if_neg (by omega),if_neg (by omega)]
 have l:¬ k=18:=by omega
 have j:¬ k=17:=by omega
 have p:¬ k=5:=by omega
 have b:¬ k=11:=by omega
 have c:¬ k=12:=by omega
 have d:¬ k=13:=by omega
 have f:¬ k=14:=by omega
 have g:¬ k=15:=by omega
 have i:¬ k=16:=by omega
 have t:¬ k=9:=by omega
 have a:¬ k=10:=by omega
 have q:¬ k=6:=by omega
 have r:¬ k=7:=by omega
 have s:¬ k=8:=by omega
 have o:¬ k=4:=by omega
 rw [e];simp [f176,l,j,p,b,c,d,f,g,i,t,a,q,r,s,o]
theorem SX (k:Int):0<=bI k∧bI k<=7:=by
 unfold bI;repeat' split
 all_goals omega
theorem acF {m:Mem}(b:m.Ok)(a:m.lim<=m.nx)(n fu:Nat):r9 KW fu (n+1) (.func 175) [] m=some [⟨.map m.nx,m.new (.map aO)⟩]:=by exact PV (K:=KW) (f:=175) (by show some ({f175 with pure:=false}:aW)=some AZ;rfl) (λ_ _=>rfl) fu n m b a
noncomputable def aei (b:Option P9)(f:IG)(n:Nat)(z:o7)(ok:Bool)(k:o7):Option o7:=KT b λes=>ob (V9 f n k es) λr=>found ok z r
theorem pY (f:IG)(n:Nat)(z:o7)(ok:Bool)(mp k:OF)(ls:List o7)(env:T o7)(m:Mem):Tj f n z ok mp k ls env m=vk (mp ls env) (ob (V9 f n (k ls env) []) λr=>found ok z r) λid=>aei (m.get id) f n z ok (k ls env):=rfl
theorem ZP {k:Int}(h:6<=k)(h':k<=18):aei (some (.map aO)) aK 1 (.str []) false (iV k)=some (.str (SQ k)):=by
 have a:k=6∨k=7∨k=8∨k=9∨k=10∨k=11∨k=12∨k=13∨k=14∨k=15∨k=16∨k=17∨k=18:=by omega
 rcases a with rfl | rfl | rfl | rfl | rfl | rfl | rfl | rfl | rfl | rfl | rfl | rfl | rfl<;>rfl
theorem ZQ {m:Mem}{S:Nat->Prop}{e:Ex}{row:List o7}(h:aS m S e row):dh 100 (.agg row) (.agg row)=true:=by obtain⟨k,n,s,a⟩:=e;obtain⟨v,b,rfl,c,_⟩:=h;have d:dh 99 v v=true:=sK c.slice 98;rw [VN,xM,su 98,xM,su 98,xM,uw 98,xM,d,Yy];rfl
def acG (n fu d:Nat):Prop:=∀(m:Mem) (row:List o7) (e:Ex) (least:Int),m.Ok->m.lim<=m.nx->13<=m.nx->aS m (λ_=>True) e row->je e=true->ng e<=10000->wU e<=d->
 ∃m',r9 KW fu n (.func 113) [.agg row,iV least] m=some [⟨.str (gu least (bL e,fF e)),m'⟩]∧Ext m m'
def C73 (n fu d:Nat):Prop:=∀(m:Mem) (v:o7) (l:List Ex),m.Ok->m.lim<=m.nx->13<=m.nx->jK m (λ_=>True) l v->X0 l=true->U1 l<=10000->bF l<=d->
 ∃m',r9 KW fu n (.func 73) [v] m=some [⟨.str (kE l),m'⟩]∧Ext m m'
theorem Qz:∀{l:List Ex} (h:X0 l=true) (i:Nat) (hi:i<l.length),je l[i]=true
 | e::l,h,0,hi=>by rw [X0,l9] at h;exact h.1
 | e::l,h,i+1,hi=>by rw [X0,l9] at h;exact Qz h.2 i (by simpa using hi)
theorem bs1 (z:List o7)(ps:List (Nat×Nat×OF))(ls:List o7)(env:T o7)(nid:Nat)(h:z.length=1):P7 1 1 z ps ls env nid=ob (lay ps ls env z) λcells=>if cells.length=1 then some (.slice nid 0 1 1,some (o9 cells)) else none:=iZ 1 z ps ls env nid h
theorem acH {n fu d:Nat}(u:acG n fu d){m:Mem}(hm:m.Ok)(Q:m.lim<=m.nx)(hb:13<=m.nx){v:o7}{rows:List (List o7)}(a:List Ex)(L:rD m (λ_=>True) 4 v rows)(P:I7 m (λ_=>True) a rows)(hf:X0 a=true)(a8:U1 a<=10000)(hd:bF a<=d):
  ∀(j i:Nat),i+j=a.length->∀(c out x6:o7) (M:Mem) (N:Nat),Ext m M->uW m.nx M out ((a.take i).map fF)->j+1<=N->
  ∃c' out' x6' M',K8 (λenv m k=>Qf (r9 KW fu n) fu none env m k) N (BL v (iV (i:Int)) (iV (a.length:Int)) c v out x6 (.str [])) M []=some [⟨.exit 0,(BL v (iV (a.length:Int)) (iV (a.length:Int)) c' v out' x6' (.str [])),M',[],none⟩]∧Ext m M'∧uW m.nx M' out' (a.map fF):=by
 have o:=I7.len P;have w:=L.slice.len;rw [o] at w;have a6:=bU a;intro j;induction j with
 | zero=>
  intro i z c out x6 M N E O Z;obtain⟨N,rfl⟩:∃k,N=k+1:=⟨N-1,by omega⟩;obtain rfl:i=a.length:=by omega
  rw [akb] at O;refine⟨.bool false,out,x6,M,?_,E,O⟩;rw [A8];simp [Qf]
 | succ j ih=>
  intro i z c out x6 M N E O Z;obtain⟨N,rfl⟩:∃k,N=k+1:=⟨N-1,by omega⟩;have b:i<a.length:=by omega
  have f:i<rows.length:=by omega
  have x:(i:Int)<(a.length:Int):=by omega
  have A:=E.ok;have l:M.lim<=M.nx:=by rw [E.lim];exact gI Q E.nx
  obtain⟨a9,o1,S,a2,a3,U,a5⟩:=(L.slice.ext E).at f;have g:=I7.get P i b f;have F:=g.row;have t:=U 0 4 (by omega) (by omega);rw [K9,L6 (by omega),Y7] at t;have a7:=pQ a i b;have a0:=Bq a i b;have B:=Qz hf i b;have s:aS M (λ_=>True) a[i] rows[i]:=NR E g;have G:(a.take i).map fF ++ [fF a[i]]=(a.take (i+1)).map fF:=by rw [abA b,adJ];rfl
  have H:((a.take i).map fF).length=i:=by simp;omega
  generalize hX:a[i]=X at *;generalize hR:rows[i]=R at *;have E1:=H7 A [o9 R];obtain⟨h,K,E2⟩:=u (ext M [o9 R]) R X 0 E1.ok (by rw [E1.lim];exact gI l E1.nx) (gI hb (gI E.nx E1.nx)) (NR E1 s) B (by omega) (by omega);have D:gu 0 (bL X,fF X)=fF X:=by unfold gu;rw [if_neg (by have:=SX (bL X);simp only;omega)]
  rw [D] at K;have r:=E2.ok;have E12:=E1.trans E2;have C:h.lim<=h.nx:=by rw [E12.lim];exact gI l E12.nx
  have E3:=H7 r [o9 [.str (fF X)]];have Eall:=E.trans (E12.trans E3);have hx:lenOf (.slice h.nx 0 1 1)=some 1:=rfl;have hr:gN (ext h [o9 [.str (fF X)]]) 1 1 (.slice h.nx 0 1 1)=some [.str (fF X)]:=by show P6 ((ext h [o9 [.str (fF X)]]).get h.nx) (λrs k' rows=>U4 rs k' rows 1 0)=_;rw [F7 r];show P6 (some (P9.cells 1 1 (T.ofList [[o7.str (fF X)]]))) _=_;rfl
  obtain⟨v5,M5,W,O5,F5⟩:=anF (lo:=m.nx) (bytes:=16) E3.ok (by rw [Eall.lim];exact Q) Eall.nx ((O.ext E12).ext E3) hx hr (by rw [H];omega) ⟨by omega,by omega⟩;have po:=λ{β:Type} (p:o7->β) q=>O5.nN p q;rw [G] at O5;have EM5:Ext m M5:=⟨F5.ok,gI Eall.nx F5.nx,F5.lim.trans Eall.lim,λi z=>(F5.old i z (by omega)).trans (Eall.old i z)⟩;obtain⟨c',out',x6',M',Y,q1,q2⟩:=ih (i+1) (by omega) tt v5 (.ptr M.nx 0) M5 N EM5 O5 (by omega);refine⟨c',out',x6',M',?_,q1,q2⟩;obtain⟨x1,x2,x3,x4,x5,x6⟩:=qo A l;obtain⟨y1,y2,y3,y4,y5,y6⟩:=qo r C;have V:h.get M.nx=some (o9 R):=by rw [E2.old _ (by simp),F7 A];rfl
  obtain⟨e,y⟩:=F;have J:Go.AM.wF (some (o9 (r4 0 0 [] nS))) 0 R=some (o9 R):=by rw [iY (by simp [e]) (by simp)];simp [e]
  have I:AO (some (o9 R)) 0 4=some (.agg R):=by rw [eX (by omega) (by omega),K9,L6 (by omega)]
  rw [A8,← Y];simp [Qf,D7,F6,x1,x2,x3,x4,x5,x6,y1,y2,y3,y4,y5,y6,H6,S,t,b,x,e,y,J,I,K,V,W,po,bs1,aF (i:=i) (by omega)]
theorem WG (l:List Ex)(h:X0 l=true)(hp:U1 l<=10000):(aI [44,32] (l.map fF)).length<1000000:=by have:=Fa l h;unfold kE at this;omega
theorem SY {n fu d:Nat}(x:20000<=fu)(e:acG (n+1) fu d):C73 (n+2) fu d:=by intro m v a p y l h o q w;obtain⟨s,i,j⟩:=h;have c:=I7.len j;have b:=i.slice.len;rw [c] at b;have z:=bU a;obtain⟨D,r,C,M',g,A,B⟩:=acH e p y l a i j o q w a.length 0 (by omega) .undef nS .undef m fu (Ext.refl p) (.inl ⟨rfl,rfl⟩) (by omega);have t:K8 (λf m k=>Qf (r9 KW fu (n+1)) fu none f m k) fu (BL v (iV 0) (iV (a.length:Int)) .undef v nS .undef (.str [])) m []=_:=g;have u:=abT (lo:=m.nx) l B [44,32] (by simp;omega) (WG a o q) n fu;refine⟨M',?_,A⟩;rw [enter (sf:=f73) rfl rfl];simp [f73,b,t,u,kE]
theorem WH {k n:Int}{s:List UInt8}{a:List Ex}(h:je (.mk k n s a)=true):cB k≠-2∧(cB k<0∨(a.length:Int)=cB k)∧(k=1->0<=n∧n<=9007199254740992)∧(k=2∨k=3->uQ s=true)∧X0 a=true:=by simp only [je,l9,aa2,decide_eq_true_eq] at h;obtain⟨⟨⟨⟨e,f⟩,c⟩,d⟩,g⟩:=h;refine⟨e,f,λb=>?_,λb=>?_,g⟩;rw [if_pos b] at c;simpa using c;rw [if_pos b] at d;exact d
theorem Ta {k:Int}(h:cB k≠-2):k=1∨k=2∨k=3∨k=4∨k=5∨(6<=k∧k<=18):=by unfold cB at h;by_cases h3:k=3;omega;by_cases h1:k=1∨k=2;omega;by_cases h4:k=4∨k=5;omega;by_cases h6:6<=k∧k<=18;omega;rw [if_neg h3,if_neg h1,if_neg h4,if_neg h6] at h;exact absurd rfl h
theorem akc {n fu d:Nat}(aj:20000<=fu)(a9:C73 (n+3) fu d)(z:acG (n+3) fu d){m:Mem}{row:List o7}{e:Ex}(least:Int)(H:m.Ok)(G:m.lim<=m.nx)(hb:13<=m.nx)(h:aS m (λ_=>True) e row)(hf:je e=true)(hp:ng e<=10000)(hd:wU e<=d+1)(ac:¬ bI (bL e)<least):
  ∃m',r9 KW fu (n+4) (.func 113) [.agg row,iV least] m=some [⟨.str (fF e),m'⟩]∧Ext m m':=by
 obtain⟨c,l,g,a⟩:=e;obtain⟨v,x,rfl,F,S⟩:=h;have R:=F.slice.H6;have N:=F.slice.cells;have b:=I7.len S;have a0:=F.slice.len;rw [b] at a0;have al:=bU a;have hL:=uy _ hf;obtain⟨p1,p2,p3,p4,A⟩:=WH hf;rw [ng] at hp hL;rw [wU] at hd;have E:=H7 H [o9 (r4 c l g v)];have p:=λm=>Uv c (n+2) fu m;have t:¬ bI c<least:=ac;have w:(ext m [o9 (r4 c l g v)]).lim<=(ext m [o9 (r4 c l g v)]).nx:=by rw [E.lim];exact gI G E.nx
 have J:13<=(ext m [o9 (r4 c l g v)]).nx:=gI hb E.nx;rw [fF] at hL ⊢;have ss:∀s:List UInt8,dh 100 (.str s) (.str s)=true:=λs=>uw 99 s;have sv:dh 100 v v=true:=sK F.slice 99;rcases Ta p1 with rfl | rfl | rfl | rfl | rfl | ⟨hk6,hk18⟩;obtain⟨q1,q2⟩:=p3 rfl;have gi:=abS l q1 (by omega) (n+2) fu (ext m [o9 (r4 1 l g v)]);refine⟨_,?_,E⟩;rw [show sN 1 l g (sQ a)=Lib.itoa l from rfl];rw [enter (sf:=f113) rfl rfl];simp [f113,dF H G,H6,R,N,p,pY,t,gi];refine⟨_,?_,E⟩;rw [show sN 2 l g (sQ a)=g from rfl];rw [enter (sf:=f113) rfl rfl];simp [f113,dF H G,H6,R,N,p,pY,t];obtain⟨M1,a8,E1⟩:=a9 (ext m [o9 (r4 3 l g v)]) v a E.ok w J (jK.ext ⟨x,F,S⟩ E) A (by omega) (by omega);have aa:M1.get m.nx=some (o9 (r4 3 l g v)):=(E1.old m.nx (by simp)).trans (by rw [F7 H];rfl);have hJ:=Fa a A;have hs:=EZ (p4 (.inr rfl));have K:Q0 g [40]=some (.str (g ++ [40])):=O7 (by simp;omega);have t2:Q0 (g ++ [40]) (kE a)=some (.str (g++40::kE a)):=by rw [O7 (by simp;omega)];simp
 have t3:Q0 (g++40::kE a) [41]=some (.str (g++40::(kE a ++ [41]))):=by rw [O7 (by simp;omega)];simp
 have O:sN 3 l g (sQ a)=g++40::(kE a ++ [41]):=by show g++(40::(aI [44,32] ((sQ a).map (·.2)) ++ [41]))=_;rw [Nn,ae5];simp [kE];rfl
 refine⟨M1,?_,E.trans E1⟩;rw [O];rw [enter (sf:=f113) rfl rfl];simp [f113,dF H G,H6,R,N,p,pY,t,a8,aa,ss,K,t2,t3]
 have y:a.length=1:=by have:cB 4=1:=rfl
                       omega
 obtain⟨X,rfl⟩:=ahN.1 y;obtain⟨D,o1,T,a2,a3,U,a5⟩:=(F.slice.ext E).at (i:=0) (by rw [b];simp);have u:=T;simp at u;have o:=I7.get S 0 (by simp) (by rw [b];simp);have a6:=o.row;have j:=U 0 4 (by omega) (by omega);rw [K9,L6 (by omega),Y7] at j;generalize x[0]'(by rw [b];simp)=R0 at *;rw [U1,U1] at hp;rw [bF,bF] at hd;rw [X0,l9] at A;have W:aS m (λ_=>True) X R0:=o;have j:AO ((ext m [o9 (r4 4 l g v)]).get D) o1 4=some (.agg R0):=j;obtain⟨M1,B,E1⟩:=z (ext m [o9 (r4 4 l g v)]) R0 X 6 E.ok w J (NR E W) A.1 (by omega) (by omega);have Z:=uy X A.1;have Q:=ni 6 (bL X,fF X);have K:Q0 [45] (gu 6 (bL X,fF X))=some (.str (45::gu 6 (bL X,fF X))):=O7 (by simp only [J6,aay];simp only at Q;omega);have O:sN 4 l g (sQ [X])=45::gu 6 (bL X,fF X):=rfl;refine⟨M1,?_,E.trans E1⟩;rw [O];rw [enter (sf:=f113) rfl rfl];simp [f113,dF H G,H6,R,N,p,pY,t,u,j,B,K]
 have y:a.length=1:=by have:cB 5=1:=rfl
                       omega
 obtain⟨X,rfl⟩:=ahN.1 y;obtain⟨D,o1,T,a2,a3,U,a5⟩:=(F.slice.ext E).at (i:=0) (by rw [b];simp);have u:=T;simp at u;have o:=I7.get S 0 (by simp) (by rw [b];simp);have a6:=o.row;have j:=U 0 4 (by omega) (by omega);rw [K9,L6 (by omega),Y7] at j;generalize x[0]'(by rw [b];simp)=R0 at *;rw [U1,U1] at hp;rw [bF,bF] at hd;rw [X0,l9] at A;have W:aS m (λ_=>True) X R0:=o;have j:AO ((ext m [o9 (r4 5 l g v)]).get D) o1 4=some (.agg R0):=j;obtain⟨M1,B,E1⟩:=z (ext m [o9 (r4 5 l g v)]) R0 X 2 E.ok w J (NR E W) A.1 (by omega) (by omega);have Z:=uy X A.1;have Q:=ni 2 (bL X,fF X);have K:Q0 [110,111,116,32] (gu 2 (bL X,fF X))=some (.str ([110,111,116,32]++gu 2 (bL X,fF X))):=O7 (by simp only [J6,aay];simp only at Q;omega);have O:sN 5 l g (sQ [X])=[110,111,116,32]++gu 2 (bL X,fF X):=rfl;refine⟨M1,?_,E.trans E1⟩;rw [O];rw [enter (sf:=f113) rfl rfl];simp [f113,dF H G,H6,R,N,p,pY,t,u,j,B,K];have P:a.length=2:=by
  have:cB c=2:=by unfold cB;rw [if_neg (by omega),if_neg (by omega),if_neg (by omega),if_pos ⟨hk6,hk18⟩]
  omega
 obtain⟨X,Y,rfl⟩:∃X Y,a=[X,Y]:=by
  match a,P with
  | [X,Y],_=>exact⟨X,Y,rfl⟩
 have k1:¬ c=1:=by omega
 have k2:¬ c=2:=by omega
 have k3:¬ c=3:=by omega
 have k4:¬ c=4:=by omega
 have k5:¬ c=5:=by omega
 have ah:=SX c;obtain⟨D,o1,T,a2,a3,U,a5⟩:=(F.slice.ext E).at (i:=0) (by rw [b];simp);have u:=T;simp at u;have o:=I7.get S 0 (by simp) (by rw [b];simp);have a6:=o.row;have j:=U 0 4 (by omega) (by omega);rw [K9,L6 (by omega),Y7] at j;obtain⟨a7,o2,b1,b2,b3,b4,b5⟩:=(F.slice.ext E).at (i:=1) (by rw [b];simp);have C:=I7.get S 1 (by simp) (by rw [b];simp);have ai:=C.row;generalize x[0]'(by rw [b];simp)=R0 at *;rw [U1,U1,U1] at hp;rw [bF,bF,bF] at hd;rw [X0,X0,l9,l9] at A;have W:aS m (λ_=>True) X R0:=o;have j:AO ((ext m [o9 (r4 c l g v)]).get D) o1 4=some (.agg R0):=j;have af:∀f:Int,(if bI c=3 then 4 else bI c)=f->∃m',r9 KW fu (n+4) (.func 113) [.agg (r4 c l g v),iV least] m=some [⟨.str (sN c l g (sQ [X,Y])),m'⟩]∧Ext m m':=by
  intro f r;obtain⟨M1,g1,E1⟩:=z (ext m [o9 (r4 c l g v)]) R0 X f E.ok w J (NR E W) A.1 (by omega) (by omega);have E1':=E.trans E1;have ab:M1.lim<=M1.nx:=by rw [E1'.lim];exact gI G E1'.nx
  have g2:=acF E1.ok ab (n+2) fu;have E2:=H7 E1.ok [.map aO];have E2':=E1'.trans E2;obtain⟨jd,oo,c1,c2,c3,c4,c5⟩:=(F.slice.ext E2').at (i:=1) (by rw [b];simp);have L:=c1;simp at L;have M:=c4 0 4 (by omega) (by omega);rw [K9,L6 (by omega),Y7] at M;rw [b1] at c1;cases c1;have I:=b4 0 4 (by omega) (by omega);rw [K9,L6 (by omega),Y7] at I;generalize x[1]'(by rw [b];simp)=R1 at *;have hY:aS m (λ_=>True) Y R1:=C;have V:AO (M1.get a7) o2 4=some (.agg R1):=by rw [E1.old a7 b2];exact I
  obtain⟨M3,g3,E3⟩:=z (ext M1 [.map aO]) R1 Y (bI c+1) E2.ok (by rw [E2'.lim];exact gI G E2'.nx) (gI hb E2'.nx) (NR E2' hY) A.2.1 (by omega) (by omega);have E3':=E2'.trans E3;have r0:(ext m [o9 (r4 c l g v)]).get m.nx=some (o9 (r4 c l g v)):=by rw [F7 H];rfl
  have r1:M1.get m.nx=some (o9 (r4 c l g v)):=(E1.old m.nx (by simp)).trans r0;have r2:(ext M1 [.map aO]).get m.nx=some (o9 (r4 c l g v)):=(E2.old m.nx (J3 (by simp) E1.nx)).trans r1;have r3:M3.get m.nx=some (o9 (r4 c l g v)):=(E3.old m.nx (J3 (J3 (by simp) E1.nx) E2.nx)).trans r2;have u2:(ext M1 [.map aO]).get M1.nx=some (.map aO):=by rw [F7 E1.ok];rfl
  have u3:M3.get M1.nx=some (.map aO):=(E3.old M1.nx (by simp)).trans u2;have lk:=ZP hk6 hk18;have sy:dh 100 (.agg R1) (.agg R1)=true:=ZQ hY;have si:∀(k:IntKind) (i:Int),dh 100 (.int k i) (.int k i)=true:=λk i=>su 99 k i;have Z:=uy X A.1;have ak:=uy Y A.2.1;have ad:=ni f (bL X,fF X);have ae:=ni (bI c+1) (bL Y,fF Y);have am:=Uu c;simp only at ad ae;have K:Q0 (gu f (bL X,fF X)) [32]=some (.str (gu f (bL X,fF X) ++ [32])):=O7 (by simp;omega);have t2:Q0 (gu f (bL X,fF X) ++ [32]) (SQ c)=some (.str (gu f (bL X,fF X)++32::SQ c)):=by rw [O7 (by simp;omega)];simp
  have t3:Q0 (gu f (bL X,fF X)++32::SQ c) [32]=some (.str (gu f (bL X,fF X)++32::(SQ c ++ [32]))):=by rw [O7 (by simp;omega)];simp
  have t4:Q0 (gu f (bL X,fF X)++32::(SQ c ++ [32])) (gu (bI c+1) (bL Y,fF Y))=some (.str (gu f (bL X,fF X)++32::(SQ c++32::gu (bI c+1) (bL Y,fF Y)))):=by rw [O7 (by simp;omega)];simp
  have w1:rz (bI c+1)=bI c+1:=Z0 (by omega) (by omega);have O:sN c l g (sQ [X,Y])=gu f (bL X,fF X)++32::(SQ c++32::gu (bI c+1) (bL Y,fF Y)):=by unfold sN;rw [if_neg k1,if_neg k2,if_neg k3,if_neg k4,if_neg k5,r];simp [sQ]
  refine⟨M3,?_,E3'⟩;rw [O];generalize bI c=q at *;by_cases h3:q=3;rw [if_pos h3] at r;subst h3;subst r;have ag:rz 4=4:=Z0 (by omega) (by omega);rw [show (3:Int)+1=4 from rfl] at *;rw [enter (sf:=f113) rfl rfl];simp [f113,dF H G,H6,R,N,p,pY,t,k1,k2,k3,k4,k5,ag,u,j,L,V,I,M,r0,r1,r2,r3,u2,u3,lk,sy,si,ss,sv,g1,g2,g3,K,t2,t3,t4];rw [if_neg h3] at r;subst r;rw [enter (sf:=f113) rfl rfl];simp [f113,dF H G,H6,R,N,p,pY,t,k1,k2,k3,k4,k5,h3,w1,u,j,L,V,I,M,r0,r1,r2,r3,u2,u3,lk,sy,si,ss,sv,g1,g2,g3,K,t2,t3,t4]
 exact af _ rfl
theorem acI (fu:Nat)(c:20000<=fu):∀d n:Nat,3*d+2<=n->acG n fu d:=by
 intro d;induction d with
 | zero=>intro n C m y e least s r u h q w p;obtain⟨b,f,g,a⟩:=e;rw [wU] at p;omega
 | succ d ih=>
  intro n C m y e least s r u h q w p;obtain⟨n,rfl⟩:∃k,n=k+5:=⟨n-5,by omega⟩;by_cases hlv:bI (bL e)<least
  case neg=>have t:gu least (bL e,fF e)=fF e:=if_neg hlv;rw [t];exact akc (n:=n+1) c (SY c (ih (n+3) (by omega))) (ih (n+4) (by omega)) least s r u h q w p hlv
  have t:gu least (bL e,fF e)=40::(fF e ++ [41]):=if_pos hlv;rw [t];have I:=uy e q;have J:=h.row;have o:=h;obtain⟨b,f,g,a⟩:=e;obtain⟨v,A,rfl,z,H⟩:=h;have D:=z.slice.H6;have B:=z.slice.cells;have E:=H7 s [o9 (r4 b f g v)];obtain⟨M1,i,E1⟩:=akc (n:=n) c (SY c (ih (n+2) (by omega))) (ih (n+3) (by omega)) 0 E.ok (by rw [E.lim];exact gI r E.nx) (gI u E.nx) (NR E o) q w p (by have:=SX (bL (.mk b f g a));omega);have j:=λm=>Uv b (n+3) fu m;have l:bI b<least:=hlv;have F:Q0 [40] (fF (.mk b f g a))=some (.str (40::fF (.mk b f g a))):=O7 (by simp only [J6,aay];omega);have G:Q0 (40::fF (.mk b f g a)) [41]=some (.str (40::(fF (.mk b f g a) ++ [41]))):=O7 (by simp only [J6,aay];omega);generalize fF (.mk b f g a)=x at *;refine⟨M1,?_,E.trans E1⟩;rw [enter (sf:=f113) rfl rfl];simp [f113,dF s r,H6,D,B,j,l,i,F,G]
theorem agj (fu:Nat)(a:20000<=fu)(d n:Nat)(h:3*d+3<=n):C73 n fu d:=by obtain⟨n,rfl⟩:∃k,n=k+2:=⟨n-2,by omega⟩;exact SY a (acI fu a d (n+1) (by omega))
theorem akd {n:Nat}(h:n<=100000000):big n 1 1=true:=by show bi (Nat.ble ((2*n+2048)*1) 281474976710656) (bi true true false) false=true;rw [show Nat.ble ((2*n+2048)*1) 281474976710656=true from Q6 (by omega)];rfl
noncomputable def tU (v:o7)(m:Mem):Option o7:=match v with
 | .nilPtr=>some .nilPtr
 | .ptr id off=>P6 (m.get id) λrs n _=>bi (Nat.blt off (Nat.mul n rs)) (some (.ptr id off)) none
 | _=>none
theorem WI (x:OF)(ls:List o7)(env:T o7)(m:Mem):tu x ls env m=tU (x ls env) m:=rfl
noncomputable def fU (oks:List (Nat×Nat))(v:o7)(m:Mem):Option o7:=match v with
 | .nilPtr=>some .nilPtr
 | .ptr id off=>P6 (m.get id) λ_ n rows=>bi (Nat.beq n 1) (ob (Fh rows) λty=>bi (Xp ty off oks) (some (.ptr id off)) none) none
 | _=>none
theorem QA (a:List (Nat×Nat))(x:OF)(ls:List o7)(env:T o7)(m:Mem):kG a x ls env m=fU a (x ls env) m:=rfl
noncomputable def sD (v:o7):Option o7:=lG v (some .nilPtr) (λid off _ cap=>bi (Nat.blt 0 cap) (some (.ptr id off)) none) (λid off len _=>bi (Nat.blt 0 len) (some (.ptr id off)) none)
theorem Ie (x:OF)(ls:List o7)(env:T o7)(m:Mem):Ez x ls env m=sD (x ls env):=rfl
noncomputable def eU (ty:Nat)(p n:o7)(m:Mem):dU:=aaJ n λk=>match p with
 | .nilPtr=>bi (Nat.beq k 0) (one (.str []) m) none
 | .ptr id off=>bi (Nat.beq off 0) (bi (Nat.ble m.lim id) (match m.get id with
  | some (.buf ty' s)=>bi (Nat.beq ty ty') (bi (Nat.beq k (len' s)) (bi (Nat.ble k 9223372036854775807) (one (.str s) (m.set id .dead)) none) none) none
  | _=>none) none) none
 | _=>none
theorem QB (a:Nat)(p n:OF)(cf:F8)(ls:List o7)(env:T o7)(m:Mem):Tk a p n cf ls env m=eU a (p ls env) (n ls env) m:=rfl
def Bu (lo:Nat)(M:Mem)(p:Nat)(s:List UInt8):Prop:=lo<=p∧p<M.nx∧∃a v,M.get p=some (fJ 123 [a,v])∧(a=.nilPtr∨a=.ptr p 0)∧
 ((v=nS∧s=[])∨∃id,lo<=id∧id<M.nx∧id≠p∧v=.sliceU id 0 s.length 1∧M.get id=some (.buf 5 s)∧s≠[])
theorem Bu.ext {lo p:Nat}{M M':Mem}{s:List UInt8}(h:Bu lo M p s)(e:Ext M M'):Bu lo M' p s:=by obtain⟨d,c,a,v,f,g,b⟩:=h;refine⟨d,J3 c e.nx,a,v,(e.old p c).trans f,g,?_⟩;rcases b with b | ⟨id,q1,q2,q3,q4,q5,q6⟩;exact .inl b;exact .inr ⟨id,q1,J3 q2 e.nx,q3,q4,(e.old id q2).trans q5,q6⟩
theorem nk (a v:o7):fJ 123 [a,v]=.cells 2 1 (.nd (.nd .e (Xh 123) .e) [a,v] .e):=rfl
theorem Nq {a v:o7}:ld1 (some (fJ 123 [a,v])) 0=some a:=by rw [nk];rfl
theorem Nr {a v:o7}:ld1 (some (fJ 123 [a,v])) 1=some v:=by rw [nk];rfl
theorem acJ {a v x:o7}:Go.AM.wF (some (fJ 123 [a,v])) 0 [x]=some (fJ 123 [x,v]):=by rw [nk,nk];rfl
theorem acK {a v x:o7}:Go.AM.wF (some (fJ 123 [a,v])) 1 [x]=some (fJ 123 [a,x]):=by rw [nk,nk];rfl
theorem acL {M:Mem}{p:Nat}{a v:o7}(c:M.Ok)(hp:p<M.nx)(g:M.lim<=p)(b:M.get p=some (fJ 123 [a,v]))(e:a=.nilPtr∨a=.ptr p 0)(n fu:Nat):
  ∃M',r9 KW fu (n+1) (.func 112) [.ptr p 0] M=some [⟨.tuple [],M'⟩]∧M'.Ok∧M'.nx=M.nx∧M'.lim=M.lim∧M'.get p=some (fJ 123 [.ptr p 0,v])∧∀i,i≠p->M'.get i=M.get i:=by
 rcases e with rfl | rfl;have h:=D6 (m:=M) c (fJ 123 [.ptr p 0,v]) hp rfl;refine⟨M.set p (fJ 123 [.ptr p 0,v]),?_,Mem.Ok.set c hp _,by simp,by simp,h,λi f=>w9 c _ hp f⟩;have j:tU (.ptr p 0) M=some (.ptr p 0):=by show P6 (M.get p) _=_;rw [b,nk];rfl
 have l:fU [(123,0),(241,2),(242,2)] (.ptr p 0) M=some (.ptr p 0):=by show P6 (M.get p) _=_;rw [b,nk];rfl
 have d:storeAt M p 0 [.ptr p 0]=λ(k:Mem->dU)=>k (M.set p (fJ 123 [.ptr p 0,v])):=by funext k;rw [pJ g,b,acJ];rfl
 rw [enter (sf:=f112) rfl rfl];simp [f112,b,Nq,zS,dJ,WI,QA,j,l,d];refine⟨M,?_,c,rfl,rfl,b,λ_ _=>rfl⟩;rw [enter (sf:=f112) rfl rfl];simp [f112,b,Nq,zS,dJ]
theorem agk {lo p:Nat}{M:Mem}{s:List UInt8}(Q:M.Ok)(V:M.lim<=lo)(h:Bu lo M p s)(t:List UInt8)(hb:s.length+t.length<=1000000)(n fu:Nat):
  ∃v M',r9 KW fu (n+2) (.func 72) [.ptr p 0,.str t] M=some [⟨.tuple [v,.nilIface],M'⟩]∧M'.Ok∧M.nx<=M'.nx∧M'.lim=M.lim∧Bu lo M' p (s++t)∧(∀i,i<lo->M'.get i=M.get i)∧∀i rs n rows,i≠p->M.get i=some (.cells rs n rows)->M'.get i=M.get i:=by
 obtain⟨K,H,a,v,S,R,A⟩:=h;obtain⟨M1,O,c,n1,Z,F,E⟩:=acL Q H (by omega) S R n fu;have U:M1.lim<=p:=by omega
 have z:∀(j:o7) (M2:Mem),(∀(x y:OF) (G:F8) (D:List o7) (e:T o7),x D e=v->y D e=.str t->yu 5 x y G D e M1=some [⟨j,M2⟩])->j.cells=[j]->H6 j=true->(∀{β:Type} (f:o7->β) q,dW j f q=q)->M2.Ok->M1.nx<=M2.nx->M2.lim=M1.lim->(∀i,i<lo∨i=p->M2.get i=M1.get i)->(∀i rs n rows,M1.get i=some (.cells rs n rows)->M2.get i=M1.get i)->
   ((j=nS∧s++t=[])∨∃id,lo<=id∧id<M2.nx∧id≠p∧j=.sliceU id 0 (s++t).length 1∧M2.get id=some (.buf 5 (s++t))∧s++t≠[])->
   ∃v M',r9 KW fu (n+2) (.func 72) [.ptr p 0,.str t] M=some [⟨.tuple [v,.nilIface],M'⟩]∧M'.Ok∧M.nx<=M'.nx∧M'.lim=M.lim∧Bu lo M' p (s++t)∧(∀i,i<lo->M'.get i=M.get i)∧∀i rs n rows,i≠p->M.get i=some (.cells rs n rows)->M'.get i=M.get i:=by
  intro j M2 P N X Y l n2 l2 L W w;have g:p<M2.nx:=by omega
  have I:M2.get p=some (fJ 123 [.ptr p 0,v]):=(L p (.inr rfl)).trans F;have J:storeAt M2 p 1 [j]=λ(k:Mem->dU)=>k (M2.set p (fJ 123 [.ptr p 0,j])):=by
   funext k;rw [pJ (by omega),I,acK];have:N7 [j]=true:=by rw [dH,X];rfl
   rw [this];rfl
  refine⟨iV (t.length:Int),M2.set p (fJ 123 [.ptr p 0,j]),?_,Mem.Ok.set l g _,by simp;omega,by simp;omega,⟨K,by simpa using g,.ptr p 0,j,D6 l _ g rfl,.inr rfl,?_⟩,λi r=>?_,λi rs n rows r o=>?_⟩;rw [enter (sf:=f72) rfl rfl];simp [f72,O,F,Nq,Nr,P,N,Y,J];rcases w with w | ⟨id,q1,q2,q3,q4,q5,q6⟩;exact .inl w;exact .inr ⟨id,q1,by simpa using q2,q3,q4,(w9 l _ g q3).trans q5,q6⟩;rw [w9 l _ g (by omega),L i (.inl r),E i (by omega)];rw [w9 l _ g r,W i rs n rows ((E i r).trans o),E i r]
 cases t with
 | nil=>
  refine z v M1 (λx y G D e B C=>?_) ?_ ?_ ?_ c (aP _) rfl (λ_ _=>rfl) (λ_ _ _ _ _=>rfl) ?_;rcases A with⟨rfl,rfl⟩ | ⟨id,q1,q2,q3,rfl,q5,q6⟩;unfold yu;rw [B,C];rfl;unfold yu;rw [B,C];have m:=(E id q3).trans q5;simp only [m];show bi true (bi true (bi true (bi (Nat.beq s.length (len' s)) (bi (Nat.ble M1.lim id) _ none) none) none) none) none=_;rw [I9,show Nat.beq s.length s.length=true from aaz _,show Nat.ble M1.lim id=true from Q6 (by omega)];rfl;rcases A with⟨rfl,rfl⟩ | ⟨id,q1,q2,q3,rfl,q5,q6⟩<;>rfl
  rcases A with⟨rfl,rfl⟩ | ⟨id,q1,q2,q3,rfl,q5,q6⟩<;>rfl
  rcases A with⟨rfl,rfl⟩ | ⟨id,q1,q2,q3,rfl,q5,q6⟩<;>exact λ_ _=>rfl
  rw [abI];rcases A with⟨rfl,rfl⟩ | ⟨id,q1,q2,q3,rfl,q5,q6⟩;exact .inl ⟨rfl,rfl⟩;exact .inr ⟨id,q1,by omega,q3,rfl,(E id q3).trans q5,q6⟩
 | cons b t=>
  rcases A with⟨rfl,rfl⟩ | ⟨id,q1,q2,q3,rfl,q5,q6⟩;refine z (.sliceU M1.nx 0 (b::t).length 1) (M1.new (.buf 5 (b::t))) (λx y G D e B C=>?_) rfl rfl (λ_ _=>rfl) (Mem.Ok.new c _) (by simp) (by simp) (λi r=>?_) (λi rs n rows o=>?_) (.inr ⟨M1.nx,by omega,by simp,by omega,rfl,by rw [Mem.K6 c,if_pos rfl];rfl,by simp⟩);unfold yu;rw [B,C];show bi (big (len' (b::t)) 1 1) (one (.sliceU M1.nx 0 (len' (b::t)) 1) (M1.new (.buf 5 (b::t)))) none=_;rw [I9,akd (by simp at hb ⊢;omega)];rfl;rw [Mem.K6 c,if_neg (by omega)];have:=Mem.I8 c o;rw [Mem.K6 c,if_neg (by omega)];have m:=(E id q3).trans q5;have u:id<M1.nx:=by omega
  have d:(M1.set id .dead).Ok:=Mem.Ok.set c u _;refine z (.sliceU M1.nx 0 (s++b::t).length 1) ((M1.set id .dead).new (.buf 5 (s++b::t))) (λx y G D e B C=>?_) rfl rfl (λ_ _=>rfl) (Mem.Ok.new d _) (by simp) (by simp) (λi r=>?_) (λi rs n rows o=>?_) (.inr ⟨M1.nx,by omega,by simp,by omega,rfl,by rw [Mem.K6 d,if_pos (by simp)],by simp⟩);unfold yu;rw [B,C];simp only [m];show bi true (bi true (bi true (bi (Nat.beq s.length (len' s)) (bi (Nat.ble M1.lim id) (bi (big (Nat.add s.length (len' (b::t))) 1 1) (one (.sliceU M1.nx 0 (Nat.add s.length (len' (b::t))) 1) ((M1.set id .dead).new (.buf 5 (aJ s (b::t))))) none) none) none) none) none) none=_;rw [I9,I9,P8,show Nat.beq s.length s.length=true from aaz _,show Nat.ble M1.lim id=true from Q6 (by omega),show Nat.add s.length (b::t).length=(s++b::t).length from by simp,akd (by simp at hb ⊢;omega)];rfl;rw [Mem.K6 d,if_neg (by simp;omega),w9 c _ u (by omega)];have K:=Mem.I8 c o;have H:i≠id:=λh=>by subst h;rw [m] at o;cases o
  rw [Mem.K6 d,if_neg (by simp;omega),w9 c _ u H]
theorem ZR {lo p:Nat}{M:Mem}{s:List UInt8}(b:M.Ok)(g:M.lim<=lo)(h:Bu lo M p s)(hb:s.length<=1000000)(n fu:Nat):
  ∃M',r9 KW fu (n+1) (.func 74) [.ptr p 0] M=some [⟨.str s,M'⟩]∧M'.Ok∧M'.nx=M.nx∧M'.lim=M.lim∧∀i,i<lo->M'.get i=M.get i:=by
 obtain⟨k,l,a,v,f,m,j⟩:=h;rcases j with⟨rfl,rfl⟩ | ⟨id,q1,q2,q3,rfl,q5,q6⟩;refine⟨M,?_,b,rfl,rfl,λ_ _=>rfl⟩;have d:sD nS=some .nilPtr:=rfl;have e:eU 5 .nilPtr (iV 0) M=some [⟨.str [],M⟩]:=rfl;rw [enter (sf:=f74) rfl rfl];simp [f74,f,Nr,Ie,QB,d,e];have c:0<s.length:=ael.2 q6;refine⟨M.set id .dead,?_,Mem.Ok.set b q2 _,by simp,by simp,λi o=>w9 b _ q2 (by omega)⟩;have d:sD (.sliceU id 0 s.length 1)=some (.ptr id 0):=by show bi (Nat.blt 0 s.length) (some (o7.ptr id 0)) none=_;rw [show Nat.blt 0 s.length=true from Y3.mpr c];rfl
 have e:eU 5 (.ptr id 0) (iV (s.length:Int)) M=some [⟨.str s,M.set id .dead⟩]:=by
  unfold eU;show bi (Nat.beq 0 0) (bi (Nat.ble M.lim id) (match M.get id with
   | some (.buf ty' s')=>bi (Nat.beq 5 ty') (bi (Nat.beq s.length (len' s')) (bi (Nat.ble s.length 9223372036854775807) (one (.str s') (M.set id .dead)) none) none) none
   | _=>none) none) none=_
  rw [q5,show Nat.ble M.lim id=true from Q6 (by omega)];show bi (Nat.beq s.length (len' s)) (bi (Nat.ble s.length 9223372036854775807) (one (.str s) (M.set id .dead)) none) none=_;rw [I9,show Nat.beq s.length s.length=true from aaz _,show Nat.ble s.length 9223372036854775807=true from Q6 (by omega)];rfl
 rw [enter (sf:=f74) rfl rfl];simp [f74,f,Nr,Ie,QB,d,e]
end Go.Proofs.YteecnooaopfkeaaGreatDoor.TT
