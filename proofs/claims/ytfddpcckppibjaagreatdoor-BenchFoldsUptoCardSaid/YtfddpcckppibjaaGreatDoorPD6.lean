/- Folding of the program, walked; conditions: the memory holds what the arguments say. -/
import Derived.Test.YtfddpcckppibjaaGreatDoorPD5
set_option linter.all false
namespace Go.Proofs.YtfddpcckppibjaaGreatDoor.TT
open Go Go.AM
def mG:Ex->Bool
 | .mk k _ _ a=>decide (k=1)||(decide (k=4)&&decide (Yg (a.headD (.mk 0 0 [] []))=1))
def Mf:List Ex->Bool
 | []=>true
 | e::l=>mG e&&Mf l
def Ag (n:Int):Ex:=if n<0 then .mk 4 0 [] [.mk 1 (-n) [] []] else .mk 1 n [] []
def Ia (k n:Int)(s:List UInt8)(a:List Ex):Ex:=
 if a=[]∨k=3∨Mf a=false then .mk k n s a
 else if (iq [] (.mk k n s a)).2=0 then Ag (iq [] (.mk k n s a)).1 else .mk k n s a
mutual
def DT:Ex->Ex
 | .mk k n s a=>Ia k n s (cK a)
def cK:List Ex->List Ex
 | []=>[]
 | e::l=>DT e::cK l
end
mutual
def YE:V7->V7
 | .mk k s e t f=>.mk k s (cK e) (mH t) (mH f)
def mH:List V7->List V7
 | []=>[]
 | s::l=>YE s::mH l
end
theorem qA:∀l:List Ex,cK l=l.map DT
 | []=>by rw [cK];rfl
 | e::l=>by rw [cK,qA l];rfl
theorem pz:∀l:List V7,mH l=l.map YE
 | []=>by rw [mH];rfl
 | e::l=>by rw [mH,pz l];rfl
theorem tu (l:List Ex):(cK l).length=l.length:=by rw [qA];simp
theorem afW {n:Int}(h:jL n=true):cZ (Ag n)=true:=by simp only [jL,Hl,decide_eq_true_eq] at h;unfold Ag;split;simp [cZ,Y0,aH];omega;simp [cZ,Y0,aH];omega
theorem OU:∀{l:List Ex},Y0 l=true↔∀x∈l,cZ x=true
 | []=>by simp [Y0]
 | e::l=>by rw [Y0,Hl,OU];simp
theorem Gm {k n:Int}{s:List UInt8}{a b:List Ex}(h:cZ (.mk k n s a)=true)(c:b.length=a.length)(hb:Y0 b=true):cZ (.mk k n s b)=true:=by rw [cZ] at h ⊢;simp only [Hl] at h ⊢;rw [c];exact⟨h.1,hb⟩
theorem YF:∀{e:Ex},cZ e=true->Yy e
 | .mk k n s a,h=>by rw [Yy];refine⟨λhk=>?_,nuL_nu ?_⟩;subst hk;obtain⟨_,h1,_⟩:=pq h (.inl rfl);have:=h1 rfl;simp only [jL,Hl,decide_eq_true_eq];omega;rw [cZ] at h;exact ((Hl _ _).mp h).2
where nuL_nu:∀{l:List Ex},Y0 l=true->Yy.nuL l
 | [],_=>trivial
 | e::l,h=>by rw [Y0,Hl] at h;exact⟨YF h.1,nuL_nu h.2⟩
theorem Rf {x:Ex}(h:cZ x=true):jL (iq [] x).1=true:=QY (by intro p a;cases a) x (YF h)
theorem afX {k n:Int}{s:List UInt8}{a:List Ex}(h:cZ (.mk k n s a)=true):cZ (Ia k n s a)=true:=by unfold Ia;split;exact h;split;exact afW (Rf h);exact h
mutual
theorem YG:∀e:Ex,cZ e=true->cZ (DT e)=true
 | .mk k n s a,h=>by
  rw [DT];have ha:Y0 a=true:=by rw [cZ] at h;exact ((Hl _ _).mp h).2
  exact afX (Gm h (tu a) (Gn a ha))
theorem Gn:∀l:List Ex,Y0 l=true->Y0 (cK l)=true
 | [],_=>by rw [cK];rfl
 | e::l,h=>by rw [Y0,Hl] at h;rw [cK,Y0,YG e h.1,Gn l h.2];rfl
end
theorem abW:∀e:Ex,1<=gM e
 | .mk _ _ _ _=>by rw [gM];omega
theorem abX:∀e:Ex,1<=dZ e
 | .mk _ _ _ _=>by rw [dZ];omega
theorem Vl (n:Int):gM (Ag n)<=2∧dZ (Ag n)<=2:=by unfold Ag;split<;>simp [gM,T9,dZ,V6]
mutual
theorem YH:∀e:Ex,gM (DT e)<=gM e∧dZ (DT e)<=dZ e
 | .mk k n s a=>by
  obtain⟨h1,h2⟩:=vO a;have hs:gM (.mk k n s (cK a))<=gM (.mk k n s a)∧dZ (.mk k n s (cK a))<=dZ (.mk k n s a):=by rw [gM,gM,dZ,dZ];omega
  rw [DT];unfold Ia;split;exact hs;rename_i hn;split;have hne:a≠[]:=λe=>hn (.inl (by rw [e,cK]));obtain⟨x,l,rfl⟩:∃x l,a=x::l:=by cases a with | nil=>exact absurd rfl hne | cons x l=>exact⟨x,l,rfl⟩
  have:=Vl (iq [] (.mk k n s (cK (x::l)))).1;have:=abW x;have:=abX x;rw [gM,dZ,T9,V6];omega;exact hs
theorem vO:∀l:List Ex,T9 (cK l)<=T9 l∧V6 (cK l)<=V6 l
 | []=>by rw [cK];exact⟨q9 _,q9 _⟩
 | e::l=>by obtain⟨h1,h2⟩:=YH e;obtain⟨h3,h4⟩:=vO l;rw [cK,T9,T9,V6,V6];omega
end
mutual
theorem YI:∀s:V7,stP (YE s)<=stP s∧rJ (YE s)<=rJ s
 | .mk k s e t f=>by obtain⟨h1,h2⟩:=vO e;obtain⟨h3,h4⟩:=wI t;obtain⟨h5,h6⟩:=wI f;rw [YE,stP,stP,rJ,rJ];omega
theorem wI:∀l:List V7,U2 (mH l)<=U2 l∧au (mH l)<=au l
 | []=>by rw [mH];exact⟨q9 _,q9 _⟩
 | s::l=>by obtain⟨h1,h2⟩:=YI s;obtain⟨h3,h4⟩:=wI l;rw [mH,U2,U2,au,au];omega
end
set_option maxRecDepth 100000
set_option maxHeartbeats 16000000
theorem Td {m:Mem}(d:m.Ok)(g:m.lim<=m.nx){row:List d9}{e:Ex}(h:R7 m (λ_=>True) e row)(z:cZ e=true)(n fu:Nat):
  ∃m',l7 KW fu (n+1) (.func 197) [.agg row] m=some [⟨.bool (mG e),m'⟩]∧Ext m m':=by
 obtain⟨k,B,s,a⟩:=e;obtain⟨v,t,rfl,l,r⟩:=h;have f:=l.slice.cells;have j:=l.slice.u7;have E0:=G6 d [l9 (r4 k B s v)];refine⟨_,?_,E0⟩;rw [enter (sf:=f197) rfl rfl];by_cases h1:k=1;subst h1;simp [f197,P6 d g,u7,f,j,mG];by_cases h4:k=4;subst h4;obtain⟨rfl,rfl,y,rfl,H⟩:=qy z (.inl rfl);have q:=A9.len r;obtain⟨id1,C,u,w,E,F,p⟩:=l.slice.at (i:=0) (by rw [q];simp);obtain⟨A,I,J,G⟩:=y;obtain⟨K,o,D,_,_⟩:=A9.get r 0 (by simp) (by rw [q];simp);rw [D] at p;have b:=p 0 (by omega);rw [Y1] at b;have b:ld1 (m.get id1) C=some (iV A):=b;have c:=u;simp at c;have x:(ext m [l9 (r4 4 0 [] v)]).get id1=m.get id1:=E0.old _ w;simp [f197,P6 d g,u7,f,j,c,x,b,mG,Yg];simp [f197,P6 d g,u7,f,j,mG,h1,h4]
def CN (g:FuncId)(n fu d:Nat):Prop:=∀(m:Mem) (row:List d9) (e:Ex),m.Ok->m.lim<=m.nx->R7 m (λ_=>True) e row->cZ e=true->gM e<=10000->dZ e<=d->
 ∃m',l7 KW fu n (.func g) [.agg row] m=some [⟨.bool (!mG e),m'⟩]∧Ext m m'
theorem abY {n fu d:Nat}:CN 196 (n+2) fu d:=by
 intro m a e j i h k q p;have l:=h.row;obtain⟨b,c⟩:=l;have E:=G6 j [l9 a];obtain⟨o,g,E1⟩:=Td E.ok (by rw [E.lim];exact aA i E.nx) (FX E h) k n fu;refine⟨o,?_,E.trans E1⟩;have f:Gw (some (l9 a)) 0 4=some (.agg a):=by rw [eU (by omega) (by omega),q8,W9 (by omega)]
 rw [enter (sf:=f196) rfl rfl];simp [f196,P6 j i,u7,b,c,f,g]
theorem DU:∀{l:List Ex} (h:Y0 l=true) (i:Nat) (hi:i<l.length),cZ l[i]=true:=λh i hi=>OU.1 h _ (aaO hi)
theorem Vm {cl:FuncId}{n fu d:Nat}(I:CN cl (n+1) fu d){m:Mem}(W:m.Ok)(K:m.lim<=m.nx){v:d9}{rows:List (List d9)}(a:List Ex)(D:eD m (λ_=>True) 4 v rows)(B:A9 m (λ_=>True) a rows)(w:Y0 a=true)(P:T9 a<=10000)(V:V6 a<=d):
  ∀(j i:Nat),i+j=a.length->∀(c k b:d9) (M:Mem) (N:Nat),Ext m M->j+1<=N->
  (Mf (a.drop i)=true∧∃c' k' b' M',C8 (λenv m k=>fQ (l7 KW fu (n+1)) fu none env m k) N (qL v (iV (i:Int)) (iV (a.length:Int)) c (.func (.func cl) [] []) k b (iV 0)) M []=some [⟨.exit 0,(qL v (iV (a.length:Int)) (iV (a.length:Int)) c' (.func (.func cl) [] []) k' b' (iV 0)),M',[],none⟩]∧Ext m M')∨
  (Mf (a.drop i)=false∧∃(i' c' k' b':d9) (r':Nat) (M':Mem),C8 (λenv m k=>fQ (l7 KW fu (n+1)) fu none env m k) N (qL v (iV (i:Int)) (iV (a.length:Int)) c (.func (.func cl) [] []) k b (iV 0)) M []=some [⟨.ret,(qL v i' (iV (a.length:Int)) c' (.func (.func cl) [] []) k' b' (iV (r':Int))),M',[],none⟩]∧Ext m M'):=by
 have x:=A9.len B;have L:=K8 a;intro j;induction j with
 | zero=>
  intro i J c k b M N E G;obtain⟨N,rfl⟩:∃k,N=k+1:=⟨N-1,by omega⟩;obtain rfl:i=a.length:=by omega
  refine .inl ⟨by simp [Mf],.bool false,k,b,M,?_,E⟩;rw [o7];simp [fQ]
 | succ j ih=>
  intro i J c k b M N E G;obtain⟨N,rfl⟩:∃k,N=k+1:=⟨N-1,by omega⟩;have e:i<a.length:=by omega
  have f:i<rows.length:=by omega
  have g:(i:Int)<(a.length:Int):=by omega
  have F:=E.ok;have s:M.lim<=M.nx:=by rw [E.lim];exact aA K E.nx
  have t:a.drop i=a[i]::a.drop (i+1):=Xd e;rw [t,Mf];obtain⟨R,Y,A,S,T,C,U⟩:=(D.slice.ext E).at f;have h:=A9.get B i e f;have Q:=h.row;have l:=C 0 4 (by omega) (by omega);rw [q8,W9 (by omega),Y1] at l;have O:=aV a i e;have H:=bX a i e;have o:R7 M (λ_=>True) a[i] rows[i]:=FX E h;have u:=DU w i e;generalize hX:a[i]=X at *;generalize hR:rows[i]=R1 at *;obtain⟨z,r,E2⟩:=I M R1 X F s o u (by omega) (by omega);by_cases hf:mG X=true;rw [hf] at r;have y:=ih (i+1) (by omega) tt (iV (i:Int)) ff z N (E.trans E2) (by omega);have q:C8 (λenv m k=>fQ (l7 KW fu (n+1)) fu none env m k) (N+1) (qL v (iV (i:Int)) (iV (a.length:Int)) c (.func (.func cl) [] []) k b (iV 0)) M []=C8 (λenv m k=>fQ (l7 KW fu (n+1)) fu none env m k) N (qL v (.int .i64 ((i+1:Nat):Int)) (iV (a.length:Int)) tt (.func (.func cl) [] []) (iV (i:Int)) ff (iV 0)) z []:=by rw [o7];simp [fQ,e,g,A,l,r,L6 (i:=i) (by omega)]
  rw [q,hf,adL];exact y;have p:mG X=false:=by simpa using hf
  rw [p] at r;refine .inr ⟨by rw [p];rfl,iV (i:Int),.bool true,iV (i:Int),.bool true,i,z,?_,E.trans E2⟩;rw [o7];simp [fQ,e,g,A,l,r]
theorem akB {cl:FuncId}{n fu d:Nat}(w:20000<=fu)(x:CN cl (n+1) fu d){m:Mem}(r:m.Ok)(y:m.lim<=m.nx){v:d9}(a:List Ex)(h:fB m (λ_=>True) a v)(l:Y0 a=true)(o:T9 a<=10000)(u:V6 a<=d):
  ∃m',l7 KW fu (n+3) (.func 66) [v,(.func (.func cl) [] [])] m=some [⟨.bool (!Mf a),m'⟩]∧Ext m m':=by
 obtain⟨t,j,p⟩:=h;have f:=A9.len p;have c:=j.slice.len;rw [f] at c;have z:=K8 a;have s:=HZ j.slice;rcases Vm (n:=n) (fu:=fu) x r y a j p l o u a.length 0 (by omega) .undef .undef .undef m fu (Ext.refl r) (by omega) with⟨ha,c',k',b',M',g,q⟩ | ⟨ha,i',c',k',b',r',M',g,q⟩;have i:C8 (λe m k=>fQ (l7 KW fu (n+1)) fu none e m k) fu (qL v (iV 0) (iV (a.length:Int)) .undef (.func (.func cl) [] []) .undef .undef (iV 0)) m []=_:=g;rw [q8] at ha;have b:l7 KW fu (n+2) (.func 111) [v,(.func (.func cl) [] [])] m=some [⟨iV (-1),M'⟩]:=by rw [enter (sf:=f111) rfl rfl];simp [f111,c,i,s]
 refine⟨M',?_,q⟩;rw [enter (sf:=f66) rfl rfl];simp [f66,b,ha];have i:C8 (λe m k=>fQ (l7 KW fu (n+1)) fu none e m k) fu (qL v (iV 0) (iV (a.length:Int)) .undef (.func (.func cl) [] []) .undef .undef (iV 0)) m []=_:=g;rw [q8] at ha;have b:l7 KW fu (n+2) (.func 111) [v,(.func (.func cl) [] [])] m=some [⟨iV (r':Int),M'⟩]:=by rw [enter (sf:=f111) rfl rfl];simp [f111,c,i,s]
 have A:(0:Int)<=(r':Int):=by omega
 refine⟨M',?_,q⟩;rw [enter (sf:=f66) rfl rfl];simp [f66,b,ha,A]
def Te (lo:Nat)(M:Mem)(v:d9)(l:List Ex):Prop:=∃(T:Nat->Prop) (rows:List (List d9)),gT lo 4 M v rows∧A9 M T l rows∧(∀i o n e,v=.sliceU i o n e->¬ T i)∧∀i,T i->lo<=i
theorem LU (lo:Nat)(M:Mem):Te lo M nS []:=⟨λ_=>False,[],gT.nil _ _ _,rfl,λ_ _ _ _ h=>(by cases h),λ_ h=>h.elim⟩
theorem LV {lo:Nat}{M c:Mem}{v:d9}{l:List Ex}(h:Te lo M v l)(E:Ext M c):Te lo c v l:=by obtain⟨T,a,d,f,g,j⟩:=h;exact⟨λi=>T i∧i<M.nx,a,d.ext E,A9.mono E.nx (λi b _=>E.old i b) (λi b h=>⟨h,b⟩) _ _ f,λi o n e k h=>g i o n e k h.1,λi h=>j i h.1⟩
theorem Gp {lo:Nat}{M:Mem}{v:d9}{d:List Ex}{y:Ex}{row:List d9}(A:M.Ok)(H:Te lo M v d)(l:M.lim<=lo)(J:lo<=M.nx)(B:R7 M (λi=>lo<=i∧∀o n e,v≠.sliceU i o n e) y row)(k:d.length+1<=100000):
  ∃v5 M5,(∀(s z:OF) (cf:H8) (ls:List d9) (env:T d9),s ls env=v->z ls env=.slice M.nx 0 1 1->mO 4 56 s z cf ls env (ext M [l9 row])=some [⟨v5,M5⟩])∧Te lo M5 v5 (d ++ [y])∧M5.Ok∧M.nx<=M5.nx∧M5.lim=M.lim∧(∀i,i<lo->M5.get i=M.get i)∧∀{β:Type} (p:d9->β) q,bC v5 p q=q:=by
 obtain⟨T,c,w,x,D,G⟩:=H;have f:=B.row;have E:=G6 A [l9 row];have t:=A9.len x;have K:dW (ext M [l9 row]) 4 (.slice M.nx 0 1 1) [row]:=by have:=Bp A row (by omega);rw [f.1] at this;exact this
 have N:(ext M [l9 row]).nx=M.nx+1:=by simp
 have I:c.length+1<=100000:=by rw [t];exact k
 obtain⟨v5,M5,C,m,F,u⟩:=DF (lo:=lo) (rs:=4) (bytes:=56) (r:=row) E.ok (by rw [E.lim];exact l) (by omega) (by omega) (w.ext E) K f.1 f.2 I ⟨by omega,by omega⟩;have g:∀i,i<M.nx->(∀o n e,v≠.sliceU i o n e)->M5.get i=M.get i:=λi a b=>by rw [u i (by omega) b,E.old i a]
 have L:∀i o n e,v=.sliceU i o n e->lo<=i:=λi o n e b=>by subst b;exact (w.lt rfl).1
 have O:=F.nx;refine⟨v5,M5,C,⟨λi=>((T i∨(lo<=i∧∀o n e,v≠.sliceU i o n e))∧i<M.nx),c ++ [row],m.down (by omega),A9.snoc ?_ ?_,λi o n e b h=>?_,λi h=>?_⟩,F.ok,by omega,by rw [F.lim,E.lim],λi a=>g i (by omega) λo n e b=>by have:=L i o n e b;omega,λp q=>m.slice.kP p q⟩;exact A9.mono (by omega) (λi a j=>g i a λo n e b=>D i o n e b j) (λi a j=>⟨.inl j,a⟩) _ _ x;exact R7.mono (by omega) (λi a j=>g i a j.2) (λi a j=>⟨.inr j,a⟩) _ _ B;have:=(m.lt b).1;rw [N] at this;omega;rcases h.1 with h | h;exact G i h;exact h.1
theorem Vn (z:List d9)(ps:List (Nat×Nat×OF))(ls:List d9)(env:T d9)(a:Nat)(h:z.length=4):O9 4 1 z ps ls env a=ob (lay ps ls env z) λcells=>if cells.length=4 then some (.slice a 0 1 1,some (l9 cells)) else none:=kG 4 z ps ls env a h
theorem afY {row:List d9}(h:row.length=4){x:OF}{ls:List d9}{env:T d9}(a:x ls env=.agg row):lay [(0,4,x)] ls env (r4 0 0 [] nS)=some row:=by rw [Qx];simp only [a,Jb,h];simp [h]
def CFd (n fu r:Nat):Prop:=∀(m:Mem) (row:List d9) (e:Ex),m.Ok->m.lim<=m.nx->R7 m (λ_=>True) e row->cZ e=true->gM e<=500->dZ e<=r->
 ∃row' m',l7 KW fu n (.func 103) [.agg row] m=some [⟨.agg row',m'⟩]∧Ext m m'∧R7 m' (λi=>m.nx<=i) (DT e) row'
def CFl (n fu r:Nat):Prop:=∀(m:Mem) (v:d9) (l:List Ex),m.Ok->m.lim<=m.nx->fB m (λ_=>True) l v->Y0 l=true->T9 l<=500->V6 l<=r->
 ∃v' m',l7 KW fu n (.func 55) [v] m=some [⟨v',m'⟩]∧Ext m m'∧fB m' (λi=>m.nx<=i) (cK l) v'
theorem abZ {n fu r:Nat}(g:CFd n fu r){m:Mem}(R:m.Ok)(s:m.lim<=m.nx){v:d9}{rows:List (List d9)}(a:List Ex)(h1:eD m (λ_=>True) 4 v rows)(Q:A9 m (λ_=>True) a rows)(hf:Y0 a=true)(hp:T9 a<=500)(hL:V6 a<=r):
  ∀(j i:Nat),i+j=a.length->∀(c out x6:d9) (M:Mem) (N:Nat),Ext m M->Te m.nx M out (cK (a.take i))->j+1<=N->
  ∃c' out' x6' M',C8 (λenv m k=>Ov (l7 KW fu n) fu none env m k) N (qL v (iV (i:Int)) (iV (a.length:Int)) c v out x6 nS) M []=some [⟨.exit 0,(qL v (iV (a.length:Int)) (iV (a.length:Int)) c' v out' x6' nS),M',[],none⟩]∧Ext m M'∧Te m.nx M' out' (cK a):=by
 have G:=A9.len Q;have a6:=K8 a;intro j;induction j with
 | zero=>
  intro i q c out x6 M N E l hN;obtain⟨N,rfl⟩:∃k,N=k+1:=⟨N-1,by omega⟩;obtain rfl:i=a.length:=by omega
  rw [ahb] at l;refine⟨.bool false,out,x6,M,?_,E,l⟩;rw [o7];simp [Ov]
 | succ j ih=>
  intro i q c out x6 M N E l hN;obtain⟨N,rfl⟩:∃k,N=k+1:=⟨N-1,by omega⟩;have b:i<a.length:=by omega
  have d:i<rows.length:=by omega
  have t:(i:Int)<(a.length:Int):=by omega
  have D:M.lim<=M.nx:=by rw [E.lim];exact aA s E.nx
  obtain⟨aa,o1,U,a2,a3,V,a5⟩:=(h1.slice.ext E).at d;have B:=A9.get Q i b d;have w:=B.row;have f:=V 0 4 (by omega) (by omega);rw [q8,W9 (by omega),Y1] at f;have a9:=aV a i b;have a0:=bX a i b;have F:=DU hf i b;have E0:=G6 E.ok [l9 rows[i]];have F0:=E.trans E0;have gn:(ext M [l9 rows[i]]).get M.nx=some (l9 rows[i]):=by rw [r9 E.ok];rfl
  have ab:(ext M [l9 rows[i]]).nx=M.nx+1:=by simp
  have I:R7 (ext M [l9 rows[i]]) (λ_=>True) a[i] rows[i]:=FX F0 B;obtain⟨A,M2,X,E2,S⟩:=g _ _ a[i] F0.ok (by rw [F0.lim];exact aA s F0.nx) I F (by omega) (by omega);have F2:=F0.trans E2;have a8:=E2.nx;have C:=LV l (E0.trans E2);have P:∀i o n e,out=.sliceU i o n e->i<M.nx:=λi o n e H=>by obtain⟨T,ac,L,_⟩:=l;exact (L.lt H).2
  have a7:=E.nx;obtain⟨v5,M5,Y,p,K,n5,l5,z,po⟩:=Gp (row:=A) (y:=DT a[i]) F2.ok C (by rw [F2.lim];exact s) (by omega) (R7.mono (q9 _) (λ_ _ _=>rfl) (λi q h=>⟨by omega,λo n e H=>by have:=P i o n e H;omega⟩) _ _ S) (by rw [tu,aer];omega);have F5:Ext m M5:=⟨K,by omega,by rw [l5,F2.lim],λi q=>by rw [z i q,F2.old i q]⟩;have u:=S.row;have ht:cK (a.take i) ++ [DT a[i]]=cK (a.take (i+1)):=by rw [qA,qA,aaI b,abN];rfl
  rw [ht] at p;obtain⟨c',out',x6',M',Z,L,q2⟩:=ih (i+1) (by omega) tt v5 (.ptr M.nx 0) M5 N F5 p (by omega);refine⟨c',out',x6',M',?_,L,q2⟩;have J:rows[i].length=4:=by omega
  have O:Go.AM.vC (some (l9 (r4 0 0 [] nS))) 0 rows[i]=some (l9 rows[i]):=by rw [Go.AM.eX (by simp [J]) (by simp)];simp [J]
  have ld:Go.AM.Gw (some (l9 rows[i])) 0 4=some (.agg rows[i]):=by rw [eU (by omega) (by omega),q8,W9 (by omega)]
  have W:J8 rows[i]=true:=w.2;have y4:=λx ls env B=>afY u.1 (x:=x) (ls:=ls) (env:=env) B;have R:=E.ok;have s:=D;rw [o7,← Z];simp [Ov,P6 R s,u7,t,U,f,J,O,W,gn,ld,X,Vn,y4,u.1,Y,po,L6 (i:=i) (by omega)]
theorem OV {n fu r:Nat}(w:20000<=fu)(b:CFd n fu r):CFl (n+1) fu r:=by intro m v l o x h u z t;obtain⟨p,g,j⟩:=h;have a:=g.slice.len;rw [A9.len j] at a;have y:=K8 l;obtain⟨F,c,D,M',q,E,T,f,A,B,G,C⟩:=abZ b o x l g j u z t l.length 0 (by omega) .undef nS .undef m fu (Ext.refl o) (by rw [aha,cK];exact LU _ _) (by omega);refine⟨c,M',?_,E,f,A.s.mono (q9 _) (λ_ _ _=>rfl) (λi _ h=>h),A9.mono (q9 _) (λ_ _ _=>rfl) (λi _ h=>C i h) _ _ B⟩;have e:C8 (λd m k=>Ov (l7 KW fu n) fu none d m k) fu (qL v (iV 0) (iV (l.length:Int)) .undef v nS .undef nS) m []=_:=q;rw [enter (sf:=f55) rfl rfl];simp [f55,a,e]
theorem ac0 {m:Mem}(c:m.Ok)(r:List d9)(hp:0<r.length){S:Nat->Prop}(a:S m.nx):eD (ext m [l9 r]) S r.length (.slice m.nx 0 1 1) [r]:=
 .inr ⟨m.nx,0,a,.inl ⟨1,by simp,by simp⟩,by simp,.inr ⟨1,T.ofList [r],by rw [r9 c];simp [l9];rfl,by simp,by simp,λi b=>by
  obtain rfl:i=0:=by simpa using b
  rw [T.aD];rfl⟩⟩
theorem YJ {x:Ex}(h:mG x=true)(b:cZ x=true):GI x=false∧unE [] x=false∧gM x<=2∧dZ x<=2:=by obtain⟨k,n,s,a⟩:=x;simp only [mG,adi,Hl,decide_eq_true_eq] at h;rcases h with rfl | ⟨rfl,h⟩;obtain⟨rfl,_,_⟩:=pq b (.inl rfl);simp [GI,Rc,unE,unL,gM,T9,dZ,V6];obtain⟨rfl,rfl,y,rfl,c⟩:=qy b (.inl rfl);obtain⟨d,f,g,e⟩:=y;have h:d=1:=h;subst h;obtain⟨rfl,_,_⟩:=pq c (.inl rfl);simp [GI,Rc,unE,unL,gM,T9,dZ,V6]
theorem JK:∀{l:List Ex},Mf l=true->Y0 l=true->Rc l=false∧unL [] l=false
 | [],_,_=>⟨rfl,rfl⟩
 | e::l,h,hf=>by rw [Mf,Hl] at h;rw [Y0,Hl] at hf;obtain⟨h1,h2,_⟩:=YJ h.1 hf.1;obtain⟨h3,h4⟩:=JK h.2 hf.2;rw [Rc,unL,h1,h2,h3,h4];exact⟨rfl,rfl⟩
theorem OW {k n:Int}{s:List UInt8}{a:List Ex}(b:cZ (.mk k n s a)=true)(f:a≠[])(g:k≠3)(h:Mf a=true):GI (.mk k n s a)=false∧unE [] (.mk k n s a)=false:=by
 have i:Y0 a=true:=by rw [cZ] at b;exact ((Hl _ _).mp b).2
 obtain⟨c,d⟩:=JK h i;have j:k≠2:=λe=>by subst e;exact f (pq b (.inr rfl)).1
 rw [GI,unE,c,d,decide_eq_false g,decide_eq_false j];exact⟨rfl,rfl⟩
theorem afZ {k n:Int}{s:List UInt8}{x:Ex}{l:List Ex}(c:cZ (.mk k n s (x::l))=true)(h:mG (.mk k n s (x::l))=true)(d:(match x with | .mk _ nx _ _=>nx)≠0):Ia k n s (x::l)=.mk k n s (x::l):=by
 simp only [mG,adi,Hl,decide_eq_true_eq] at h;rcases h with rfl | ⟨rfl,h⟩;obtain⟨h,_,_⟩:=pq c (.inl rfl);cases h;obtain⟨rfl,rfl,y,b,g⟩:=qy c (.inl rfl);cases b;obtain⟨i,a,p,j⟩:=x;have h:i=1:=h;subst h;obtain⟨rfl,e,_⟩:=pq g (.inl rfl);obtain⟨m,o,rfl⟩:=e rfl;have d:a≠0:=d;unfold Ia;have f:iq [] (.mk 4 0 [] [.mk 1 a [] []])=(-a,0):=by simp [iq,vlL,JI]
 rw [f];have:¬ ([Ex.mk 1 a [] []]=[]∨(4:Int)=3∨Mf [.mk 1 a [] []]=false):=by simp [Mf,mG]
 rw [if_neg this,if_pos rfl];unfold Ag;rw [if_pos (by show -a<0;omega)];show Ex.mk 4 0 [] [.mk 1 (- -a) [] []]=_;rw [Int.neg_neg]
theorem YK {n fu r:Nat}(ae:20000<=fu)(hn:160<=n)(hr:r+1<=20)(an:CFl n fu r):CFd (n+1) fu (r+1):=by
 intro m b7 e hm hl h hf hp hL;obtain⟨k,f,s,a⟩:=e;obtain⟨v,aj,rfl,q1,q2⟩:=h;have cv:=q1.slice.cells;have ov:=q1.slice.u7;have ha:Y0 a=true:=by rw [cZ] at hf;exact ((Hl _ _).mp hf).2
 have V:=Gm hf (tu a) (Gn a ha);have b5:=vO a;have ar:gM (.mk k f s (cK a))<=500:=by rw [gM] at hp ⊢;omega
 have ao:dZ (.mk k f s (cK a))<=20:=by rw [dZ] at hL ⊢;omega
 have b2:=K8 (cK a);rw [gM] at ar;rw [dZ] at ao;rw [gM] at hp;rw [dZ] at hL;have E0:=G6 hm [l9 (r4 k f s v),l9 (r4 0 0 [] nS)];have L:∀{M:Mem},Ext m M->M.lim<=M.nx:=λE=>by rw [E.lim];exact aA hl E.nx
 have aw:(ext m [l9 (r4 k f s v),l9 (r4 0 0 [] nS)]).nx=m.nx+2:=by simp
 have A:(ext m [l9 (r4 k f s v),l9 (r4 0 0 [] nS)]).get m.nx=some (l9 (r4 k f s v)):=by rw [r9 hm];rfl
 have ak:(ext m [l9 (r4 k f s v),l9 (r4 0 0 [] nS)]).get (m.nx+1)=some (l9 (r4 0 0 [] nS)):=by rw [I7 hm];rfl
 obtain⟨p,M1,C,E1,rows',p1,p2⟩:=an _ v a E0.ok (L E0) ⟨aj,q1.mono E0.nx (λi hi _=>E0.old i hi) (λ_ _ h=>h),yH E0 q2⟩ ha (by omega) (by omega);have F1:=E0.trans E1;have n1:=E1.nx;rw [aw] at n1 p1 p2;have D:M1.get m.nx=some (l9 (r4 k f s v)):=(E1.old _ (by omega)).trans A;have al:M1.get (m.nx+1)=some (l9 (r4 0 0 [] nS)):=(E1.old _ (by omega)).trans ak;have B:=p1.slice.cells;have F:=p1.slice.u7;have G:=HZ p1.slice;have aa:M1.lim<=m.nx:=by rw [F1.lim];exact hl
 have ac:m.nx<M1.nx:=by omega
 have H:=sB aa;have ad:(M1.set m.nx (l9 (r4 k f s p))).Ok:=Mem.Ok.set F1.ok ac _;have o:(M1.set m.nx (l9 (r4 k f s p))).get m.nx=some (l9 (r4 k f s p)):=I8 F1.ok _ ac rfl;have a6:∀i,i≠m.nx->(M1.set m.nx (l9 (r4 k f s p))).get i=M1.get i:=λi hi=>K5 F1.ok _ ac hi;have am:(M1.set m.nx (l9 (r4 k f s p))).get (m.nx+1)=some (l9 (r4 0 0 [] nS)):=(a6 _ (by omega)).trans al;have n2:(M1.set m.nx (l9 (r4 k f s p))).nx=M1.nx:=rfl;have l2:(M1.set m.nx (l9 (r4 k f s p))).lim<=m.nx:=aa;have a9:eD (M1.set m.nx (l9 (r4 k f s p))) (λi=>m.nx+2<=i) 4 p rows':=p1.mono (q9 _) (λi hi h=>a6 i (by omega)) (λ_ _ h=>h);have a0:A9 (M1.set m.nx (l9 (r4 k f s p))) (λi=>m.nx+2<=i) (cK a) rows':=A9.mono (m:=M1) (m':=M1.set m.nx (l9 (r4 k f s p))) (q9 M1.nx) (λi hi h=>a6 i (by omega)) (λ_ _ h=>h) _ _ p2;have ah:∀i,i<m.nx->(M1.set m.nx (l9 (r4 k f s p))).get i=m.get i:=λi hi=>by rw [a6 i (by omega),F1.old i hi]
 have S:(M1.set m.nx (l9 (r4 k f s p))).lim=m.lim:=F1.lim;generalize hM2:M1.set m.nx (l9 (r4 k f s p))=M2 at *;have x2:R7 M2 (λi=>m.nx+2<=i) (.mk k f s (cK a)) (r4 k f s p):=⟨p,rows',rfl,a9,a0⟩;have j:=a9.slice.len;rw [A9.len a0] at j;have ab:∀(M:Mem),Ext M2 M->∀(w:List d9),w.length=4->J8 w=true->∀(y:Ex),R7 M (λi=>m.nx+2<=i) y w->
   (∀(β:Type) a8 vs (k:Mem->Option β),storeAt M (m.nx+1) a8 vs k=bi (J8 vs) (ob (Go.AM.vC (M.get (m.nx+1)) a8 vs) λb=>k (M.set (m.nx+1) b)) none)∧M.get (m.nx+1)=some (l9 (r4 0 0 [] nS))∧M.get m.nx=some (l9 (r4 k f s p))∧
   (M.set (m.nx+1) (l9 w)).get (m.nx+1)=some (l9 w)∧Ext m (M.set (m.nx+1) (l9 w))∧R7 (M.set (m.nx+1) (l9 w)) (λi=>m.nx<=i) y w:=λM EM w hw b6 y hy=>by
  have hn:=EM.nx;have a7:m.nx+1<M.nx:=by omega
  refine⟨λβ a8 vs k=>jA (by rw [EM.lim,S];omega) a8 vs k,(EM.old _ (by omega)).trans am,(EM.old _ (by omega)).trans o,I8 EM.ok _ a7 rfl,⟨Mem.Ok.set EM.ok a7 _,by show m.nx<=M.nx;omega,by show M.lim=_;rw [EM.lim,S],λi hi=>by rw [K5 EM.ok _ a7 (by omega),EM.old i (by omega),ah i hi]⟩,R7.mono (m:=M) (m':=M.set (m.nx+1) (l9 w)) (q9 M.nx) (λi hi h=>K5 EM.ok _ a7 (by omega)) (λi _ h=>by omega) _ _ hy⟩
 have K:∀(M:Mem) (EM:Ext M2 M),_:=λM EM=>ab M EM (r4 k f s p) rfl x2.row.2 (.mk k f s (cK a)) (FX EM x2);have e0:DT (.mk k f s a)=Ia k f s (cK a):=by rw [DT]
 rw [e0];by_cases c1:cK a=[];obtain⟨N,O,P,Q,Y,Z⟩:=K M2 (Ext.refl ad);have e:Ia k f s (cK a)=.mk k f s (cK a):=by unfold Ia;rw [if_pos (.inl c1)]
 rw [c1] at j;refine⟨(r4 k f s p),_,?_,Y,by rw [e];exact Z⟩;rw [enter (sf:=f103) rfl rfl];simp [f103,G9,H9,cv,ov,B,F,A,C,G,D,H,hM2,o,j,N,O,P,Q];have b1:(cK a).length≠0:=λq=>c1 (aaB.1 q);by_cases c2:k=3;subst c2;obtain⟨N,O,P,Q,Y,Z⟩:=K M2 (Ext.refl ad);have e:Ia 3 f s (cK a)=.mk 3 f s (cK a):=by unfold Ia;rw [if_pos (.inr (.inl rfl))]
 refine⟨(r4 3 f s p),_,?_,Y,by rw [e];exact Z⟩;rw [enter (sf:=f103) rfl rfl];simp [f103,G9,H9,cv,ov,B,F,A,C,G,D,H,hM2,o,j,c1,N,O,P,Q];have aq:Y0 (cK a)=true:=Gn a ha;have ap:CN 196 (n-3+1) fu 20:=by rw [show n-3+1=(n-4)+2 from by omega];exact abY
 obtain⟨M3,x,E3⟩:=akB (n:=n-3) (fu:=fu) (d:=20) ae ap ad (by omega) (cK a) ⟨rows',a9.mono (q9 _) (λ_ _ _=>rfl) (λ_ _ _=>trivial),A9.mono (q9 _) (λ_ _ _=>rfl) (λ_ _ _=>trivial) _ _ a0⟩ aq (by omega) (by omega);rw [show n-3+3=n from by omega] at x;by_cases c3:Mf (cK a)=false;obtain⟨N,O,P,Q,Y,Z⟩:=K M3 E3;have e:Ia k f s (cK a)=.mk k f s (cK a):=by unfold Ia;rw [if_pos (.inr (.inr c3))]
 rw [c3] at x;refine⟨(r4 k f s p),_,?_,Y,by rw [e];exact Z⟩;rw [enter (sf:=f103) rfl rfl];simp [f103,G9,H9,cv,ov,B,F,A,C,G,D,H,hM2,o,j,c1,c2,x,N,O,P,Q];have c3:Mf (cK a)=true:=by simpa using c3
 rw [c3] at x;have b3:=E3.nx;have F3L:M3.lim<=M3.nx:=by rw [E3.lim,S];omega
 have x3:∀{M:Mem},Ext M2 M->R7 M (λ_=>True) (.mk k f s (cK a)) (r4 k f s p):=λ{M} EM=>R7.mono (m:=M2) (m':=M) EM.nx (λi hi _=>EM.old i hi) (λ_ _ _=>trivial) _ _ x2;obtain⟨M4,g,E4⟩:=Td E3.ok F3L (x3 E3) V (n-1) fu;rw [show n-1+1=n from by omega] at g;have E34:=E3.trans E4;obtain⟨ax,az⟩:=OW V c1 c2 c3;have R:M3.get m.nx=some (l9 (r4 k f s p)):=(E3.old _ (by omega)).trans o;have t:M4.get m.nx=some (l9 (r4 k f s p)):=(E34.old _ (by omega)).trans o;obtain⟨y,l,W⟩:∃y l,cK a=y::l:=by cases h:cK a with | nil=>exact absurd h c1 | cons y l=>exact⟨y,l,rfl⟩
 obtain⟨ky,ny,sy,ay⟩:=y;have af:=A9.len a0;obtain⟨av,o1,a1,a2,a3,a4,a5⟩:=(a9.slice.ext E34).at (i:=0) (by rw [af,W];simp);have ag:=A9.get (l:=cK a) a0 0 (by rw [W];simp) (by rw [af,W];simp);have au:(cK a)[0]'(by rw [W];simp)=.mk ky ny sy ay:=by simp [W]
 rw [au] at ag;obtain⟨vx,b0,rx,_,_⟩:=ag;rw [rx] at a5;have I:=a5 1 (by omega);have I:ld1 (M4.get av) (o1+1)=some (iV ny):=I;have J:=a1;simp at J;by_cases c4:mG (.mk k f s (cK a))=true∧ny≠0;obtain⟨N,O,P,Q,Y,Z⟩:=K M4 E34;have e:Ia k f s (cK a)=.mk k f s (cK a):=by rw [W] at V c4 ⊢;exact afZ V c4.1 c4.2
 obtain⟨c4,c5⟩:=c4;rw [c4] at g;refine⟨(r4 k f s p),_,?_,Y,by rw [e];exact Z⟩;rw [enter (sf:=f103) rfl rfl];simp [f103,G9,H9,cv,ov,B,F,A,C,G,D,H,hM2,o,j,c1,c2,x,R,g,t,J,I,c5,N,O,P,Q];have u:(mG (.mk k f s (cK a))=true->ny=0):=λh=>Decidable.byContradiction λq=>c4 ⟨h,q⟩;have F4L:M4.lim<=M4.nx:=by rw [E34.lim,S];have:=E34.nx;omega
 obtain⟨M5,T,E5⟩:=abV fu ae n 20 (by omega) (by omega) M4 (r4 k f s p) (.mk k f s (cK a)) E34.ok F4L (x3 E34) V ax az (by rw [gM];omega) (by rw [dZ];omega);have E45:=E34.trans E5;have U:M5.get m.nx=some (l9 (r4 k f s p)):=(E45.old _ (by omega)).trans o;have hz:=Rf V;have ef:Ia k f s (cK a)=if (iq [] (.mk k f s (cK a))).2=0 then Ag (iq [] (.mk k f s (cK a))).1 else .mk k f s (cK a):=by unfold Ia;rw [if_neg (λq=>by rcases q with q | q | q;exact c1 q;exact c2 q;rw [c3] at q;cases q)]
 rw [ef];generalize iq [] (.mk k f s (cK a))=z at *;simp only [jL,Hl,decide_eq_true_eq] at hz;by_cases z2:z.2=0
 case neg=>
  obtain⟨N,O,P,Q,Y,Z⟩:=K M5 E45;refine⟨(r4 k f s p),_,?_,Y,by rw [if_neg z2];exact Z⟩;rw [enter (sf:=f103) rfl rfl];cases hb:mG (.mk k f s (cK a)) with
  | false=>rw [hb] at g;simp [f103,G9,H9,cv,ov,B,F,A,C,G,D,H,hM2,o,j,c1,c2,x,R,g,t,J,I,u,t,T,z2,U,N,O,P,Q]
  | true=>rw [hb] at g;have u:=u hb;subst u;simp [f103,G9,H9,cv,ov,B,F,A,C,G,D,H,hM2,o,j,c1,c2,x,R,g,t,J,I,t,T,z2,U,N,O,P,Q]
 rw [if_pos z2];have on:Go.AM.u7 nS=true:=rfl;have ai:∀a b c d,Go.AM.u7 (.slice a b c d)=true:=λ_ _ _ _=>rfl;have w0:iP (0-z.1)=-z.1:=by rw [K6 (by omega) (by omega)];omega
 have w1:lY .i64 (-z.1)=-z.1:=K6 (n:=-z.1) (by omega) (by omega);by_cases z1:z.1<0;have X:=G6 E45.ok [l9 (r4 1 (-z.1) [] nS)];have b4:=E45.nx;have EX:=E45.trans X;have tr:R7 (ext M5 [l9 (r4 1 (-z.1) [] nS)]) (λi=>m.nx+2<=i) (.mk 4 0 [] [.mk 1 (-z.1) [] []]) (r4 4 0 [] (.slice M5.nx 0 1 1)):=
  ⟨_,[(r4 1 (-z.1) [] nS)],rfl,ac0 E45.ok (r4 1 (-z.1) [] nS) (by simp) (by omega),_,[],rfl,⟨_,[],rfl,.inl ⟨rfl,rfl⟩,rfl⟩,rfl⟩
 obtain⟨N,O,P,Q,Y,Z⟩:=ab _ EX (r4 4 0 [] (.slice M5.nx 0 1 1)) rfl rfl _ tr;refine⟨(r4 4 0 [] (.slice M5.nx 0 1 1)),_,?_,Y,by rw [Ag,if_pos z1];exact Z⟩;rw [enter (sf:=f103) rfl rfl];cases hb:mG (.mk k f s (cK a)) with
 | false=>rw [hb] at g;simp [f103,G9,H9,cv,ov,B,F,A,C,G,D,H,hM2,o,j,c1,c2,x,R,g,t,J,I,u,t,T,z2,z1,U,w0,w1,Vn,on,ai,N,O,P,Q]
 | true=>rw [hb] at g;have u:=u hb;subst u;simp [f103,G9,H9,cv,ov,B,F,A,C,G,D,H,hM2,o,j,c1,c2,x,R,g,t,J,I,t,T,z2,z1,U,w0,w1,Vn,on,ai,N,O,P,Q]
 obtain⟨N,O,P,Q,Y,Z⟩:=ab M5 E45 (r4 1 z.1 [] nS) rfl rfl (.mk 1 z.1 [] []) ⟨_,[],rfl,.inl ⟨rfl,rfl⟩,rfl⟩;refine⟨(r4 1 z.1 [] nS),_,?_,Y,by rw [Ag,if_neg z1];exact Z⟩;rw [enter (sf:=f103) rfl rfl];cases hb:mG (.mk k f s (cK a)) with
 | false=>rw [hb] at g;simp [f103,G9,H9,cv,ov,B,F,A,C,G,D,H,hM2,o,j,c1,c2,x,R,g,t,J,I,u,t,T,z2,z1,U,on,N,O,P,Q]
 | true=>rw [hb] at g;have u:=u hb;subst u;simp [f103,G9,H9,cv,ov,B,F,A,C,G,D,H,hM2,o,j,c1,c2,x,R,g,t,J,I,t,T,z2,z1,U,on,N,O,P,Q]
theorem ac1 (fu:Nat)(a:20000<=fu):∀r n:Nat,r<=20->200+2*r<=n->CFd n fu r∧CFl n fu r:=by
 intro r;induction r with
 | zero=>
  intro n f d;have b:∀n,CFd n fu 0:=λn m i e o l h j p g=>by cases e;rw [dZ] at g;omega
  obtain⟨n,rfl⟩:∃k,n=k+1:=⟨n-1,by omega⟩;exact⟨b _,OV a (b n)⟩
 | succ r ih=>
  intro n f d;have c:∀n,201+2*r<=n->CFd n fu (r+1):=λn d=>by obtain⟨n,rfl⟩:∃k,n=k+1:=⟨n-1,by omega⟩;exact YK a (by omega) f (ih n (by omega) (by omega)).2
  obtain⟨n,rfl⟩:∃k,n=k+1:=⟨n-1,by omega⟩;exact⟨c _ (by omega),OV a (c n (by omega))⟩
def Vo (lo:Nat)(M:Mem)(v:d9)(l:List V7):Prop:=∃(T:Nat->Prop) (rows:List (List d9)),gT lo 5 M v rows∧H6 M T l rows∧(∀i o n e,v=.sliceU i o n e->¬ T i)∧∀i,T i->lo<=i
theorem Tf (lo:Nat)(M:Mem):Vo lo M nS []:=⟨λ_=>False,[],gT.nil _ _ _,rfl,λ_ _ _ _ h=>(by cases h),λ_ h=>h.elim⟩
theorem YL {lo:Nat}{M:Mem}{v:d9}{d:List V7}{y:V7}{row:List d9}(A:M.Ok)(H:Vo lo M v d)(l:M.lim<=lo)(J:lo<=M.nx)(B:ig M (λi=>lo<=i∧∀o n e,v≠.sliceU i o n e) y row)(k:d.length+1<=100000):
  ∃v5 M5,(∀(s z:OF) (cf:H8) (ls:List d9) (env:T d9),s ls env=v->z ls env=.slice M.nx 0 1 1->mO 5 96 s z cf ls env (ext M [l9 row])=some [⟨v5,M5⟩])∧Vo lo M5 v5 (d ++ [y])∧M5.Ok∧M.nx<=M5.nx∧M5.lim=M.lim∧(∀i,i<lo->M5.get i=M.get i)∧∀{β:Type} (p:d9->β) q,bC v5 p q=q:=by
 obtain⟨T,c,w,x,D,G⟩:=H;have f:=B.row;have E:=G6 A [l9 row];have t:=H6.len x;have K:dW (ext M [l9 row]) 5 (.slice M.nx 0 1 1) [row]:=by have:=Bp A row (by omega);rw [f.1] at this;exact this
 have N:(ext M [l9 row]).nx=M.nx+1:=by simp
 have I:c.length+1<=100000:=by rw [t];exact k
 obtain⟨v5,M5,C,m,F,u⟩:=DF (lo:=lo) (rs:=5) (bytes:=96) (r:=row) E.ok (by rw [E.lim];exact l) (by omega) (by omega) (w.ext E) K f.1 f.2 I ⟨by omega,by omega⟩;have g:∀i,i<M.nx->(∀o n e,v≠.sliceU i o n e)->M5.get i=M.get i:=λi a b=>by rw [u i (by omega) b,E.old i a]
 have L:∀i o n e,v=.sliceU i o n e->lo<=i:=λi o n e b=>by subst b;exact (w.lt rfl).1
 have O:=F.nx;refine⟨v5,M5,C,⟨λi=>((T i∨(lo<=i∧∀o n e,v≠.sliceU i o n e))∧i<M.nx),c ++ [row],m.down (by omega),H6.snoc ?_ ?_,λi o n e b h=>?_,λi h=>?_⟩,F.ok,by omega,by rw [F.lim,E.lim],λi a=>g i (by omega) λo n e b=>by have:=L i o n e b;omega,λp q=>m.slice.kP p q⟩;exact H6.mono (by omega) (λi a j=>g i a λo n e b=>D i o n e b j) (λi a j=>⟨.inl j,a⟩) _ _ x;exact ig.mono (by omega) (λi a j=>g i a j.2) (λi a j=>⟨.inr j,a⟩) _ _ B;have:=(m.lt b).1;rw [N] at this;omega;rcases h.1 with h | h;exact G i h;exact h.1
theorem akD (z:List d9)(ps:List (Nat×Nat×OF))(ls:List d9)(env:T d9)(a:Nat)(h:z.length=5):O9 5 1 z ps ls env a=ob (lay ps ls env z) λcells=>if cells.length=5 then some (.slice a 0 1 1,some (l9 cells)) else none:=kG 5 z ps ls env a h
theorem akE {row:List d9}(h:row.length=5){x:OF}{ls:List d9}{env:T d9}(a:x ls env=.agg row):lay [(0,5,x)] ls env (r5 0 [] nS nS nS)=some row:=by rw [Qx];simp only [a,Jb,h];simp [h]
def CFs (n fu r:Nat):Prop:=∀(m:Mem) (v:d9) (l:List V7),m.Ok->m.lim<=m.nx->O4 m (λ_=>True) l v->aT l=true->U2 l<=500->au l<=r->
 ∃v' m',l7 KW fu n (.func 22) [v] m=some [⟨v',m'⟩]∧Ext m m'∧O4 m' (λi=>m.nx<=i) (mH l) v'
theorem Gq:∀{l:List V7},aT l=true↔∀x∈l,tQ x=true
 | []=>by simp [aT]
 | e::l=>by rw [aT,Hl,Gq];simp
theorem ac2 {n fu r:Nat}(a7:∀k,k<=20->CFl n fu k)(L:CFs n fu r)(av:r<=20){m:Mem}(hm:m.Ok)(hl:m.lim<=m.nx){v:d9}{rows:List (List d9)}(a:List V7)(h1:eD m (λ_=>True) 5 v rows)(h2:H6 m (λ_=>True) a rows)(hf:aT a=true)(hp:U2 a<=500)(hL:au a<=r+1):
  ∀(j i:Nat),i+j=a.length->∀(c x5 out:d9) (M:Mem) (N:Nat),Ext m M->Vo m.nx M out (mH (a.take i))->j+1<=N->
  ∃c' x5' out' M',C8 (λenv m k=>Js (l7 KW fu n) fu none env m k) N (qL v (iV (i:Int)) (iV (a.length:Int)) c v x5 out nS) M []=some [⟨.exit 0,(qL v (iV (a.length:Int)) (iV (a.length:Int)) c' v x5' out' nS),M',[],none⟩]∧Ext m M'∧Vo m.nx M' out' (mH a):=by
 have ab:=H6.len h2;have aw:=U0 a;intro j;induction j with
 | zero=>
  intro i b c x5 out M N E O hN;obtain⟨N,rfl⟩:∃k,N=k+1:=⟨N-1,by omega⟩;obtain rfl:i=a.length:=by omega
  rw [ahb] at O;refine⟨.bool false,x5,out,M,?_,E,O⟩;rw [o7];simp [Js]
 | succ j ih=>
  intro i b c x5 out M N E O hN;obtain⟨N,rfl⟩:∃k,N=k+1:=⟨N-1,by omega⟩;have p:i<a.length:=by omega
  have D:i<rows.length:=by omega
  have Q:(i:Int)<(a.length:Int):=by omega
  have w:∀{M:Mem},Ext m M->M.lim<=M.nx:=λE=>by rw [E.lim];exact aA hl E.nx
  obtain⟨ay,o1,a1,a2,a3,a4,a5⟩:=(h1.slice.ext E).at D;have hx:=H6.get h2 i p D;have ao:=hx.row.2;have G:=a4 0 5 (by omega) (by omega);rw [q8,W9 (by omega),Y1] at G;have ac:=jf a i p;have a9:=mE a i p;have aa:tQ a[i]=true:=Gq.1 hf _ (aaO p);have ht:mH (a.take i) ++ [YE a[i]]=mH (a.take (i+1)):=by rw [pz,pz,aaI p,abN];rfl
  generalize hX:a[i]=X at *;obtain⟨k,s,e,t,f⟩:=X;obtain⟨F,A,u,re,rt,rf,hR,e1,e2,t1,t2,f1,f2⟩:=hx;rw [hR] at G ao;obtain⟨_,fe,ft,ff,_⟩:=JF aa;rw [stP] at ac;rw [rJ] at a9;have E0:=G6 E.ok [l9 (r5 k s F A u)];have F0:=E.trans E0;have gn:(ext M [l9 (r5 k s F A u)]).get M.nx=some (l9 (r5 k s F A u)):=by rw [r9 E.ok];rfl
  have az:(ext M [l9 (r5 k s F A u)]).nx=M.nx+1:=by simp
  have ax:=E.nx;obtain⟨d,M1,g1,E1,w1⟩:=a7 20 (q9 _) _ F e F0.ok (w F0) ⟨re,e1.mono F0.nx (λi b _=>F0.old i b) (λ_ _ h=>h),yH F0 e2⟩ fe (by omega) (by omega);have F1:=F0.trans E1;obtain⟨l,M2,g2,E2,w2⟩:=L _ A t F1.ok (w F1) (O4.ext ⟨rt,t1,t2⟩ F1) ft (by omega) (by omega);have F2:=F1.trans E2;obtain⟨q,M3,g3,E3,w3⟩:=L _ u f F2.ok (w F2) (O4.ext ⟨rf,f1,f2⟩ F2) ff (by omega) (by omega);have F3:=F2.trans E3;have n1:=E1.nx;have n2:=E2.nx;have n3:=E3.nx;have Zc:M1.get M.nx=some (l9 (r5 k s F A u)):=(E1.old _ (by omega)).trans gn;have K:M2.get M.nx=some (l9 (r5 k s F A u)):=(E2.old _ (by omega)).trans Zc;have a6:M3.get M.nx=some (l9 (r5 k s F A u)):=(E3.old _ (by omega)).trans K;obtain⟨ah,Y,u2⟩:=w1;obtain⟨aj,Z,y2⟩:=w2;obtain⟨ai,z1,z2⟩:=w3;have an:=bF e1.slice 99;have aq:=bF t1.slice 99;have ap:=bF f1.slice 99;have U:=bF Y.slice 99;have W:=bF Z.slice 99;have V:=bF z1.slice 99;have oe:=Y.slice.u7;have ot:=Z.slice.u7;have ae:=z1.slice.u7;have ce:=Y.slice.cells;have ct:=Z.slice.cells;have a0:=z1.slice.cells;have pe:=HZ Y.slice;have pt:=HZ Z.slice;have pf:=HZ z1.slice;have lq:M3.lim<=M.nx:=by rw [F3.lim];omega
  have z:M.nx<M3.nx:=by omega
  have ak:=sB lq;have H:∀B,(M3.set M.nx B).Ok:=λB=>Mem.Ok.set F3.ok z _;have g4:∀B,(M3.set M.nx B).get M.nx=some B:=λB=>I8 F3.ok _ z rfl;have al:=λB (β:Type) off vs (k:Mem->Option β)=>jA (m:=M3.set M.nx B) lq off vs k;have I:∀B C,((M3.set M.nx B).set M.nx C).Ok:=λB C=>Mem.Ok.set (H B) z _;have g5:∀B C,((M3.set M.nx B).set M.nx C).get M.nx=some C:=λB C=>I8 (H B) _ z rfl;have am:=λB C (β:Type) off vs (k:Mem->Option β)=>jA (m:=(M3.set M.nx B).set M.nx C) lq off vs k;obtain⟨M6,g⟩:∃M6,M6=((M3.set M.nx (l9 (r5 k s d A u))).set M.nx (l9 (r5 k s d l u))).set M.nx (l9 (r5 k s d l q)):=⟨_,rfl⟩;have af:M6.Ok:=g▸Mem.Ok.set (I _ _) z _;have g6:M6.get M.nx=some (l9 (r5 k s d l q)):=g▸I8 (I _ _) _ z rfl;have n6:M6.nx=M3.nx:=by rw [g];rfl
  have l6:M6.lim=M3.lim:=by rw [g];rfl
  have y:∀i,i≠M.nx->M6.get i=M3.get i:=λi b=>by rw [g,K5 (I _ _) _ z b,K5 (H _) _ z b,K5 F3.ok _ z b]
  have ar:∀i o n e,out=.sliceU i o n e->i<M.nx:=λi o n e R=>by obtain⟨T,b8,q1,_⟩:=O;exact (q1.lt R).2
  have a8:Vo m.nx M6 out (mH (a.take i)):=by
   obtain⟨T,J,b1,b2,b3,b4⟩:=O;have EE:=(E0.trans E1).trans (E2.trans E3);have ob:∀i,i<M.nx->M6.get i=M.get i:=λi b=>by rw [y i (by omega),EE.old i b]
   exact⟨λi=>T i∧i<M.nx,J,b1.keep (by omega) (λi _ b=>ob i b),H6.mono (by omega) (λi b _=>ob i b) (λi b h=>⟨h,b⟩) _ _ b2,λi o n e R h=>b3 i o n e R h.1,λi h=>b4 i h.1⟩
  have hr:ig M6 (λi=>m.nx<=i∧∀o n e,out≠.sliceU i o n e) (YE (.mk k s e t f)) (r5 k s d l q):=by
   rw [YE];have b6:∀i,i≠M.nx->M6.get i=M3.get i:=y;have S1:∀i,M.nx+1<=i->(m.nx<=i∧∀o n e,out≠.sliceU i o n e):=λi h=>⟨by omega,λo n e R=>by have:=ar i o n e R;omega⟩;refine⟨d,l,q,ah,aj,ai,rfl,Y.mono (by omega) (λi b h=>by rw [y i (by omega),E3.old i (by omega),E2.old i b]) (λi _ h=>S1 i (by omega)),A9.mono (by omega) (λi b h=>by rw [y i (by omega),E3.old i (by omega),E2.old i b]) (λi _ h=>S1 i (by omega)) _ _ u2,
    Z.mono (by omega) (λi b h=>by rw [y i (by omega),E3.old i b]) (λi _ h=>S1 i (by omega)),H6.mono (by omega) (λi b h=>by rw [y i (by omega),E3.old i b]) (λi _ h=>S1 i (by omega)) _ _ y2,
    z1.mono (by omega) (λi b h=>by rw [y i (by omega)]) (λi _ h=>S1 i (by omega)),H6.mono (by omega) (λi b h=>by rw [y i (by omega)]) (λi _ h=>S1 i (by omega)) _ _ z2⟩
  obtain⟨v5,M5,gb,P,ag,n5,l5,S,po⟩:=YL af a8 (by rw [l6,F3.lim];exact hl) (by omega) hr (by rw [pz,aaN,aer];omega);rw [ht] at P;have F5:Ext m M5:=⟨ag,by omega,by rw [l5,l6,F3.lim],λi b=>by rw [S i b,y i (by omega),F3.old i b]⟩;obtain⟨c',x5',out',M',gg,q1,q2⟩:=ih (i+1) (by omega) tt (.ptr M.nx 0) v5 M5 N F5 P (by omega);refine⟨c',x5',out',M',?_,q1,q2⟩;have b0:=e1.slice.u7;have b7:=t1.slice.u7;have b5:=f1.slice.u7;have ad:=λx ls env hx=>akE (row:=(r5 k s d l q)) rfl (x:=x) (ls:=ls) (env:=env) hx;have hl:=w E;rw [o7,← gg];simp [Js,P6 E.ok hl,Q,a1,G,ao,gn,Zc,K,a6,g1,g2,g3,pe,pt,pf,ak,al,am,g4,g5,oe,ot,ae,ce,ct,a0,an,aq,ap,U,W,V,← g,g6,akD,ad,gb,po,L6 (i:=i) (by omega)]
theorem YM {n fu r:Nat}(x:20000<=fu)(f:∀k,k<=20->CFl n fu k)(e:CFs n fu r)(B:r<=20):CFs (n+1) fu (r+1):=by intro m v l p y h w A u;obtain⟨q,j,o⟩:=h;have a:=j.slice.len;rw [H6.len o] at a;have z:=U0 l;obtain⟨H,G,b,M',t,E,T,g,C,D,I,F⟩:=ac2 f e B p y l j o w A u l.length 0 (by omega) .undef .undef nS m fu (Ext.refl p) (by rw [aha,mH];exact Tf _ _) (by omega);refine⟨b,M',?_,E,g,C.s.mono (q9 _) (λ_ _ _=>rfl) (λi _ h=>h),H6.mono (q9 _) (λ_ _ _=>rfl) (λi _ h=>F i h) _ _ D⟩;have d:C8 (λc m k=>Js (l7 KW fu n) fu none c m k) fu (qL v (iV 0) (iV (l.length:Int)) .undef v .undef nS nS) m []=_:=t;rw [enter (sf:=f22) rfl rfl];simp [f22,a,d]
theorem ag0 (fu:Nat)(b:20000<=fu):∀r n:Nat,r<=20->260+r<=n->CFs n fu r:=by
 intro r;induction r with
 | zero=>
  intro n u q m v l p x h w y j;obtain⟨n,rfl⟩:∃k,n=k+1:=⟨n-1,by omega⟩;have c:l=[]:=by
   cases l with
   | nil=>rfl
   | cons s l=>obtain⟨k,s,e,t,f⟩:=s;rw [au,rJ] at j;omega
  subst c;obtain⟨d,g,i⟩:=h;have a:=g.slice.len;rw [H6.len i] at a;obtain⟨fu,rfl⟩:∃k,fu=k+1:=⟨fu-1,by omega⟩;refine⟨nS,m,?_,Ext.refl p,[],.inl ⟨rfl,rfl⟩,rfl⟩;rw [enter (sf:=f22) rfl rfl];simp [f22,Js,o7,a]
 | succ r ih=>intro n u q;obtain⟨n,rfl⟩:∃k,n=k+1:=⟨n-1,by omega⟩;exact YM b (λk o=>(ac1 fu b k n o (by omega)).2) (ih n (by omega) (by omega)) (by omega)
theorem YN {l:List V7}(h:Zy l=0):Zx l=0:=by unfold Zy at h;by_cases c:Zx l=0;exact c;rw [if_neg c] at h;exact h
theorem akF {m:Mem}(p:m.Ok)(e:m.lim<=m.nx){v:d9}{l:List V7}(h:O4 m (λ_=>True) l v)(hp:U2 l<=10000)(o:au l<=26)(n fu:Nat)(x:300<=n)(a:20000<=fu):
  ∃v' m',l7 KW fu (n+1) (.func 8) [v] m=some [⟨.tuple [v',iV (Zy l)],m'⟩]∧Ext m m'∧(if Zy l=0 then O4 m' (λi=>m.nx<=i) (mH l) v' else v'=nS):=by
 obtain⟨n,rfl⟩:∃k,n=k+1:=⟨n-1,by omega⟩;obtain⟨f,d,E1⟩:=afC p e h hp o n fu (by omega) a;by_cases c:Zy l=0;obtain⟨y,r,s⟩:=Yn (YN c);obtain⟨v',q,j,E2,w⟩:=ag0 fu a 20 (n+1) (by omega) (by omega) f v l E1.ok (by rw [E1.lim];exact aA e E1.nx) (O4.ext h E1) s (by omega) r;obtain⟨b,g,u⟩:=w;have t:=HZ g.slice;refine⟨v',q,?_,E1.trans E2,by rw [if_pos c];exact⟨b,g.mono (q9 _) (λ_ _ _=>rfl) (λi _ h=>aA E1.nx h),H6.mono (q9 _) (λ_ _ _=>rfl) (λi _ h=>aA E1.nx h) _ _ u⟩⟩;rw [c] at d ⊢;rw [enter (sf:=f8) rfl rfl];simp [f8,d,j,t];refine⟨nS,f,?_,E1,by rw [if_neg c]⟩;rw [enter (sf:=f8) rfl rfl];simp [f8,d,c]
end Go.Proofs.YtfddpcckppibjaaGreatDoor.TT
