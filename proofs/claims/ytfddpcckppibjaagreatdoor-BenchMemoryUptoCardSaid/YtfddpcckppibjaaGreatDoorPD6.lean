/- Folding of the program, walked; conditions: the memory holds what the arguments say. -/
import Derived.Test.YtfddpcckppibjaaGreatDoorPD5
set_option linter.all false
namespace Go.Proofs.YtfddpcckppibjaaGreatDoor.TT
open Go Go.AM
def tQ:Ex->Bool
 | .mk k _ _ a=>decide (k=1)||(decide (k=4)&&decide (sK (a.headD (.mk 0 0 [] []))=1))
def Sb:List Ex->Bool
 | []=>true
 | e::l=>tQ e&&Sb l
def Gv (n:Int):Ex:=if n<0 then .mk 4 0 [] [.mk 1 (-n) [] []] else .mk 1 n [] []
def OE (k n:Int)(s:List UInt8)(a:List Ex):Ex:=
 if a=[]∨k=3∨Sb a=false then .mk k n s a
 else if (qm [] (.mk k n s a)).2=0 then Gv (qm [] (.mk k n s a)).1 else .mk k n s a
mutual
def UO:Ex->Ex
 | .mk k n s a=>OE k n s (jP a)
def jP:List Ex->List Ex
 | []=>[]
 | e::l=>UO e::jP l
end
mutual
def fdS:ak->ak
 | .mk k s e t f=>.mk k s (jP e) (qC t) (qC f)
def qC:List ak->List ak
 | []=>[]
 | s::l=>fdS s::qC l
end
theorem Dk:∀l:List Ex,jP l=l.map UO
 | []=>by rw [jP];rfl
 | e::l=>by rw [jP,Dk l];rfl
theorem zY:∀l:List ak,qC l=l.map fdS
 | []=>by rw [qC];rfl
 | e::l=>by rw [qC,zY l];rfl
theorem KN (l:List Ex):(jP l).length=l.length:=by rw [Dk];simp
theorem aff {n:Int}(h:nW n=true):iK (Gv n)=true:=by simp only [nW,q8,decide_eq_true_eq] at h;unfold Gv;split;simp [iK,V6,bT];omega;simp [iK,V6,bT];omega
theorem Od:∀{l:List Ex},V6 l=true↔∀x∈l,iK x=true
 | []=>by simp [V6]
 | e::l=>by rw [V6,q8,Od];simp
theorem Oe {k n:Int}{s:List UInt8}{a b:List Ex}(h:iK (.mk k n s a)=true)(c:b.length=a.length)(hb:V6 b=true):iK (.mk k n s b)=true:=by rw [iK] at h ⊢;simp only [q8] at h ⊢;rw [c];exact⟨h.1,hb⟩
theorem Yg:∀{e:Ex},iK e=true->XZ e
 | .mk k n s a,h=>by rw [XZ];refine⟨λhk=>?_,nuL_nu ?_⟩;subst hk;obtain⟨_,h1,_⟩:=oZ h (.inl rfl);have:=h1 rfl;simp only [nW,q8,decide_eq_true_eq];omega;rw [iK] at h;exact ((q8 _ _).mp h).2
where nuL_nu:∀{l:List Ex},V6 l=true->XZ.nuL l
 | [],_=>trivial
 | e::l,h=>by rw [V6,q8] at h;exact⟨Yg h.1,nuL_nu h.2⟩
theorem Yh {x:Ex}(h:iK x=true):nW (qm [] x).1=true:=Qy (by intro p a;cases a) x (Yg h)
theorem afg {k n:Int}{s:List UInt8}{a:List Ex}(h:iK (.mk k n s a)=true):iK (OE k n s a)=true:=by unfold OE;split;exact h;split;exact aff (Yh h);exact h
mutual
theorem afh:∀e:Ex,iK e=true->iK (UO e)=true
 | .mk k n s a,h=>by
  rw [UO];have ha:V6 a=true:=by rw [iK] at h;exact ((q8 _ _).mp h).2
  exact afg (Oe h (KN a) (KO a ha))
theorem KO:∀l:List Ex,V6 l=true->V6 (jP l)=true
 | [],_=>by rw [jP];rfl
 | e::l,h=>by rw [V6,q8] at h;rw [jP,V6,afh e h.1,KO l h.2];rfl
end
theorem abo:∀e:Ex,1<=iJ e
 | .mk _ _ _ _=>by rw [iJ];omega
theorem abp:∀e:Ex,1<=gQ e
 | .mk _ _ _ _=>by rw [gQ];omega
theorem Ut (n:Int):iJ (Gv n)<=2∧gQ (Gv n)<=2:=by unfold Gv;split<;>simp [iJ,R5,gQ,U5]
mutual
theorem Yi:∀e:Ex,iJ (UO e)<=iJ e∧gQ (UO e)<=gQ e
 | .mk k n s a=>by
  obtain⟨h1,h2⟩:=zZ a;have hs:iJ (.mk k n s (jP a))<=iJ (.mk k n s a)∧gQ (.mk k n s (jP a))<=gQ (.mk k n s a):=by rw [iJ,iJ,gQ,gQ];omega
  rw [UO];unfold OE;split;exact hs;rename_i hn;split;have hne:a≠[]:=λe=>hn (.inl (by rw [e,jP]));obtain⟨x,l,rfl⟩:∃x l,a=x::l:=by cases a with | nil=>exact absurd rfl hne | cons x l=>exact⟨x,l,rfl⟩
  have:=Ut (qm [] (.mk k n s (jP (x::l)))).1;have:=abo x;have:=abp x;rw [iJ,gQ,R5,U5];omega;exact hs
theorem zZ:∀l:List Ex,R5 (jP l)<=R5 l∧U5 (jP l)<=U5 l
 | []=>by rw [jP];exact⟨J2 _,J2 _⟩
 | e::l=>by obtain⟨h1,h2⟩:=Yi e;obtain⟨h3,h4⟩:=zZ l;rw [jP,R5,R5,U5,U5];omega
end
mutual
theorem Yj:∀s:ak,stP (fdS s)<=stP s∧wh (fdS s)<=wh s
 | .mk k s e t f=>by obtain⟨h1,h2⟩:=zZ e;obtain⟨h3,h4⟩:=wC t;obtain⟨h5,h6⟩:=wC f;rw [fdS,stP,stP,wh,wh];omega
theorem wC:∀l:List ak,Z0 (qC l)<=Z0 l∧aR (qC l)<=aR l
 | []=>by rw [qC];exact⟨J2 _,J2 _⟩
 | s::l=>by obtain⟨h1,h2⟩:=Yj s;obtain⟨h3,h4⟩:=wC l;rw [qC,Z0,Z0,aR,aR];omega
end
set_option maxRecDepth 100000
set_option maxHeartbeats 16000000
theorem Sc {m:Mem}(d:m.Ok)(g:m.lim<=m.nx){row:List d9}{e:Ex}(h:au m (λ_=>True) e row)(z:iK e=true)(n fu:Nat):
  ∃m',j6 KW fu (n+1) (.func 197) [.agg row] m=some [⟨.bool (tQ e),m'⟩]∧Ext m m':=by
 obtain⟨k,B,s,a⟩:=e;obtain⟨v,t,rfl,l,r⟩:=h;have f:=l.slice.cells;have j:=l.slice.w9;have E0:=G7 d [o7 (r4 k B s v)];refine⟨_,?_,E0⟩;rw [enter (sf:=f197) rfl rfl];by_cases h1:k=1;subst h1;simp [f197,aX d g,w9,f,j,tQ];by_cases h4:k=4;subst h4;obtain⟨rfl,rfl,y,rfl,H⟩:=zW z (.inl rfl);have q:=D9.len r;obtain⟨id1,C,u,w,E,F,p⟩:=l.slice.at (i:=0) (by rw [q];simp);obtain⟨A,I,J,G⟩:=y;obtain⟨K,o,D,_,_⟩:=D9.get r 0 (by simp) (by rw [q];simp);rw [D] at p;have b:=p 0 (by omega);rw [Y6] at b;have b:ld1 (m.get id1) C=some (iV A):=b;have c:=u;simp at c;have x:(ext m [o7 (r4 4 0 [] v)]).get id1=m.get id1:=E0.old _ w;simp [f197,aX d g,w9,f,j,c,x,b,tQ,sK];simp [f197,aX d g,w9,f,j,tQ,h1,h4]
def CN (g:FuncId)(n fu d:Nat):Prop:=∀(m:Mem) (row:List d9) (e:Ex),m.Ok->m.lim<=m.nx->au m (λ_=>True) e row->iK e=true->iJ e<=10000->gQ e<=d->
 ∃m',j6 KW fu n (.func g) [.agg row] m=some [⟨.bool (!tQ e),m'⟩]∧Ext m m'
theorem abq {n fu d:Nat}:CN 196 (n+2) fu d:=by
 intro m a e j i h k q p;have l:=h.row;obtain⟨b,c⟩:=l;have E:=G7 j [o7 a];obtain⟨o,g,E1⟩:=Sc E.ok (by rw [E.lim];exact aP i E.nx) (Gs E h) k n fu;refine⟨o,?_,E.trans E1⟩;have f:CY (some (o7 a)) 0 4=some (.agg a):=by rw [fP (by omega) (by omega),U9,W9 (by omega)]
 rw [enter (sf:=f196) rfl rfl];simp [f196,aX j i,w9,b,c,f,g]
theorem Sd:∀{l:List Ex} (h:V6 l=true) (i:Nat) (hi:i<l.length),iK l[i]=true:=λh i hi=>Od.1 h _ (aa3 hi)
theorem Uu {cl:FuncId}{n fu d:Nat}(I:CN cl (n+1) fu d){m:Mem}(W:m.Ok)(K:m.lim<=m.nx){v:d9}{rows:List (List d9)}(a:List Ex)(D:jf m (λ_=>True) 4 v rows)(B:D9 m (λ_=>True) a rows)(w:V6 a=true)(P:R5 a<=10000)(V:U5 a<=d):
  ∀(j i:Nat),i+j=a.length->∀(c k b:d9) (M:Mem) (N:Nat),Ext m M->j+1<=N->
  (Sb (a.drop i)=true∧∃c' k' b' M',I4 (λenv m k=>fH (j6 KW fu (n+1)) fu none env m k) N (pJ v (iV (i:Int)) (iV (a.length:Int)) c (.func (.func cl) [] []) k b (iV 0)) M []=some [⟨.exit 0,(pJ v (iV (a.length:Int)) (iV (a.length:Int)) c' (.func (.func cl) [] []) k' b' (iV 0)),M',[],none⟩]∧Ext m M')∨
  (Sb (a.drop i)=false∧∃(i' c' k' b':d9) (r':Nat) (M':Mem),I4 (λenv m k=>fH (j6 KW fu (n+1)) fu none env m k) N (pJ v (iV (i:Int)) (iV (a.length:Int)) c (.func (.func cl) [] []) k b (iV 0)) M []=some [⟨.ret,(pJ v i' (iV (a.length:Int)) c' (.func (.func cl) [] []) k' b' (iV (r':Int))),M',[],none⟩]∧Ext m M'):=by
 have x:=D9.len B;have L:=Q8 a;intro j;induction j with
 | zero=>
  intro i J c k b M N E G;obtain⟨N,rfl⟩:∃k,N=k+1:=⟨N-1,by omega⟩;obtain rfl:i=a.length:=by omega
  refine .inl ⟨by simp [Sb],.bool false,k,b,M,?_,E⟩;rw [p9];simp [fH]
 | succ j ih=>
  intro i J c k b M N E G;obtain⟨N,rfl⟩:∃k,N=k+1:=⟨N-1,by omega⟩;have e:i<a.length:=by omega
  have f:i<rows.length:=by omega
  have g:(i:Int)<(a.length:Int):=by omega
  have F:=E.ok;have s:M.lim<=M.nx:=by rw [E.lim];exact aP K E.nx
  have t:a.drop i=a[i]::a.drop (i+1):=Y8 e;rw [t,Sb];obtain⟨R,Y,A,S,T,C,U⟩:=(D.slice.ext E).at f;have h:=D9.get B i e f;have Q:=h.row;have l:=C 0 4 (by omega) (by omega);rw [U9,W9 (by omega),Y6] at l;have O:=jh a i e;have H:=mF a i e;have o:au M (λ_=>True) a[i] rows[i]:=Gs E h;have u:=Sd w i e;generalize hX:a[i]=X at *;generalize hR:rows[i]=R1 at *;obtain⟨z,r,E2⟩:=I M R1 X F s o u (by omega) (by omega);by_cases hf:tQ X=true;rw [hf] at r;have y:=ih (i+1) (by omega) tt (iV (i:Int)) ff z N (E.trans E2) (by omega);have q:I4 (λenv m k=>fH (j6 KW fu (n+1)) fu none env m k) (N+1) (pJ v (iV (i:Int)) (iV (a.length:Int)) c (.func (.func cl) [] []) k b (iV 0)) M []=I4 (λenv m k=>fH (j6 KW fu (n+1)) fu none env m k) N (pJ v (.int .i64 ((i+1:Nat):Int)) (iV (a.length:Int)) tt (.func (.func cl) [] []) (iV (i:Int)) ff (iV 0)) z []:=by rw [p9];simp [fH,e,g,A,l,r,P9 (i:=i) (by omega)]
  rw [q,hf,aea];exact y;have p:tQ X=false:=by simpa using hf
  rw [p] at r;refine .inr ⟨by rw [p];rfl,iV (i:Int),.bool true,iV (i:Int),.bool true,i,z,?_,E.trans E2⟩;rw [p9];simp [fH,e,g,A,l,r]
theorem ajI {cl:FuncId}{n fu d:Nat}(w:20000<=fu)(x:CN cl (n+1) fu d){m:Mem}(r:m.Ok)(y:m.lim<=m.nx){v:d9}(a:List Ex)(h:jg m (λ_=>True) a v)(l:V6 a=true)(o:R5 a<=10000)(u:U5 a<=d):
  ∃m',j6 KW fu (n+3) (.func 66) [v,(.func (.func cl) [] [])] m=some [⟨.bool (!Sb a),m'⟩]∧Ext m m':=by
 obtain⟨t,j,p⟩:=h;have f:=D9.len p;have c:=j.slice.len;rw [f] at c;have z:=Q8 a;have s:=KV j.slice;rcases Uu (n:=n) (fu:=fu) x r y a j p l o u a.length 0 (by omega) .undef .undef .undef m fu (Ext.refl r) (by omega) with⟨ha,c',k',b',M',g,q⟩ | ⟨ha,i',c',k',b',r',M',g,q⟩;have i:I4 (λe m k=>fH (j6 KW fu (n+1)) fu none e m k) fu (pJ v (iV 0) (iV (a.length:Int)) .undef (.func (.func cl) [] []) .undef .undef (iV 0)) m []=_:=g;rw [U9] at ha;have b:j6 KW fu (n+2) (.func 111) [v,(.func (.func cl) [] [])] m=some [⟨iV (-1),M'⟩]:=by rw [enter (sf:=f111) rfl rfl];simp [f111,c,i,s]
 refine⟨M',?_,q⟩;rw [enter (sf:=f66) rfl rfl];simp [f66,b,ha];have i:I4 (λe m k=>fH (j6 KW fu (n+1)) fu none e m k) fu (pJ v (iV 0) (iV (a.length:Int)) .undef (.func (.func cl) [] []) .undef .undef (iV 0)) m []=_:=g;rw [U9] at ha;have b:j6 KW fu (n+2) (.func 111) [v,(.func (.func cl) [] [])] m=some [⟨iV (r':Int),M'⟩]:=by rw [enter (sf:=f111) rfl rfl];simp [f111,c,i,s]
 have A:(0:Int)<=(r':Int):=by omega
 refine⟨M',?_,q⟩;rw [enter (sf:=f66) rfl rfl];simp [f66,b,ha,A]
def AcE (lo:Nat)(M:Mem)(v:d9)(l:List Ex):Prop:=∃(T:Nat->Prop) (rows:List (List d9)),gB lo 4 M v rows∧D9 M T l rows∧(∀i o n e,v=.sliceU i o n e->¬ T i)∧∀i,T i->lo<=i
theorem abr (lo:Nat)(M:Mem):AcE lo M nS []:=⟨λ_=>False,[],gB.nil _ _ _,rfl,λ_ _ _ _ h=>(by cases h),λ_ h=>h.elim⟩
theorem abt {lo:Nat}{M c:Mem}{v:d9}{l:List Ex}(h:AcE lo M v l)(E:Ext M c):AcE lo c v l:=by obtain⟨T,a,d,f,g,j⟩:=h;exact⟨λi=>T i∧i<M.nx,a,d.ext E,D9.mono E.nx (λi b _=>E.old i b) (λi b h=>⟨h,b⟩) _ _ f,λi o n e k h=>g i o n e k h.1,λi h=>j i h.1⟩
theorem Yk {lo:Nat}{M:Mem}{v:d9}{d:List Ex}{y:Ex}{row:List d9}(A:M.Ok)(H:AcE lo M v d)(l:M.lim<=lo)(J:lo<=M.nx)(B:au M (λi=>lo<=i∧∀o n e,v≠.sliceU i o n e) y row)(k:d.length+1<=100000):
  ∃v5 M5,(∀(s z:OF) (cf:D7) (ls:List d9) (env:T d9),s ls env=v->z ls env=.slice M.nx 0 1 1->qF 4 56 s z cf ls env (ext M [o7 row])=some [⟨v5,M5⟩])∧AcE lo M5 v5 (d ++ [y])∧M5.Ok∧M.nx<=M5.nx∧M5.lim=M.lim∧(∀i,i<lo->M5.get i=M.get i)∧∀{β:Type} (p:d9->β) q,bg v5 p q=q:=by
 obtain⟨T,c,w,x,D,G⟩:=H;have f:=B.row;have E:=G7 A [o7 row];have t:=D9.len x;have K:fQ (ext M [o7 row]) 4 (.slice M.nx 0 1 1) [row]:=by have:=AY A row (by omega);rw [f.1] at this;exact this
 have N:(ext M [o7 row]).nx=M.nx+1:=by simp
 have I:c.length+1<=100000:=by rw [t];exact k
 obtain⟨v5,M5,C,m,F,u⟩:=Kh (lo:=lo) (rs:=4) (bytes:=56) (r:=row) E.ok (by rw [E.lim];exact l) (by omega) (by omega) (w.ext E) K f.1 f.2 I ⟨by omega,by omega⟩;have g:∀i,i<M.nx->(∀o n e,v≠.sliceU i o n e)->M5.get i=M.get i:=λi a b=>by rw [u i (by omega) b,E.old i a]
 have L:∀i o n e,v=.sliceU i o n e->lo<=i:=λi o n e b=>by subst b;exact (w.lt rfl).1
 have O:=F.nx;refine⟨v5,M5,C,⟨λi=>((T i∨(lo<=i∧∀o n e,v≠.sliceU i o n e))∧i<M.nx),c ++ [row],m.down (by omega),D9.snoc ?_ ?_,λi o n e b h=>?_,λi h=>?_⟩,F.ok,by omega,by rw [F.lim,E.lim],λi a=>g i (by omega) λo n e b=>by have:=L i o n e b;omega,λp q=>m.slice.mq p q⟩;exact D9.mono (by omega) (λi a j=>g i a λo n e b=>D i o n e b j) (λi a j=>⟨.inl j,a⟩) _ _ x;exact au.mono (by omega) (λi a j=>g i a j.2) (λi a j=>⟨.inr j,a⟩) _ _ B;have:=(m.lt b).1;rw [N] at this;omega;rcases h.1 with h | h;exact G i h;exact h.1
theorem afj (z:List d9)(ps:List (Nat×Nat×OF))(ls:List d9)(env:T d9)(a:Nat)(h:z.length=4):U6 4 1 z ps ls env a=ob (lay ps ls env z) λcells=>if cells.length=4 then some (.slice a 0 1 1,some (o7 cells)) else none:=kJ 4 z ps ls env a h
theorem aps {row:List d9}(h:row.length=4){x:OF}{ls:List d9}{env:T d9}(a:x ls env=.agg row):lay [(0,4,x)] ls env (r4 0 0 [] nS)=some row:=by rw [PZ];simp only [a,HZ,h];simp [h]
def CFd (n fu r:Nat):Prop:=∀(m:Mem) (row:List d9) (e:Ex),m.Ok->m.lim<=m.nx->au m (λ_=>True) e row->iK e=true->iJ e<=500->gQ e<=r->
 ∃row' m',j6 KW fu n (.func 103) [.agg row] m=some [⟨.agg row',m'⟩]∧Ext m m'∧au m' (λi=>m.nx<=i) (UO e) row'
def CFl (n fu r:Nat):Prop:=∀(m:Mem) (v:d9) (l:List Ex),m.Ok->m.lim<=m.nx->jg m (λ_=>True) l v->V6 l=true->R5 l<=500->U5 l<=r->
 ∃v' m',j6 KW fu n (.func 55) [v] m=some [⟨v',m'⟩]∧Ext m m'∧jg m' (λi=>m.nx<=i) (jP l) v'
theorem abu {n fu r:Nat}(g:CFd n fu r){m:Mem}(R:m.Ok)(s:m.lim<=m.nx){v:d9}{rows:List (List d9)}(a:List Ex)(h1:jf m (λ_=>True) 4 v rows)(Q:D9 m (λ_=>True) a rows)(hf:V6 a=true)(hp:R5 a<=500)(hL:U5 a<=r):
  ∀(j i:Nat),i+j=a.length->∀(c out x6:d9) (M:Mem) (N:Nat),Ext m M->AcE m.nx M out (jP (a.take i))->j+1<=N->
  ∃c' out' x6' M',I4 (λenv m k=>Nw (j6 KW fu n) fu none env m k) N (pJ v (iV (i:Int)) (iV (a.length:Int)) c v out x6 nS) M []=some [⟨.exit 0,(pJ v (iV (a.length:Int)) (iV (a.length:Int)) c' v out' x6' nS),M',[],none⟩]∧Ext m M'∧AcE m.nx M' out' (jP a):=by
 have G:=D9.len Q;have a6:=Q8 a;intro j;induction j with
 | zero=>
  intro i q c out x6 M N E l hN;obtain⟨N,rfl⟩:∃k,N=k+1:=⟨N-1,by omega⟩;obtain rfl:i=a.length:=by omega
  rw [agq] at l;refine⟨.bool false,out,x6,M,?_,E,l⟩;rw [p9];simp [Nw]
 | succ j ih=>
  intro i q c out x6 M N E l hN;obtain⟨N,rfl⟩:∃k,N=k+1:=⟨N-1,by omega⟩;have b:i<a.length:=by omega
  have d:i<rows.length:=by omega
  have t:(i:Int)<(a.length:Int):=by omega
  have D:M.lim<=M.nx:=by rw [E.lim];exact aP s E.nx
  obtain⟨aa,o1,U,a2,a3,V,a5⟩:=(h1.slice.ext E).at d;have B:=D9.get Q i b d;have w:=B.row;have f:=V 0 4 (by omega) (by omega);rw [U9,W9 (by omega),Y6] at f;have a9:=jh a i b;have a0:=mF a i b;have F:=Sd hf i b;have E0:=G7 E.ok [o7 rows[i]];have F0:=E.trans E0;have gn:(ext M [o7 rows[i]]).get M.nx=some (o7 rows[i]):=by rw [A8 E.ok];rfl
  have ab:(ext M [o7 rows[i]]).nx=M.nx+1:=by simp
  have I:au (ext M [o7 rows[i]]) (λ_=>True) a[i] rows[i]:=Gs F0 B;obtain⟨A,M2,X,E2,S⟩:=g _ _ a[i] F0.ok (by rw [F0.lim];exact aP s F0.nx) I F (by omega) (by omega);have F2:=F0.trans E2;have a8:=E2.nx;have C:=abt l (E0.trans E2);have P:∀i o n e,out=.sliceU i o n e->i<M.nx:=λi o n e H=>by obtain⟨T,ac,L,_⟩:=l;exact (L.lt H).2
  have a7:=E.nx;obtain⟨v5,M5,Y,p,K,n5,l5,z,po⟩:=Yk (row:=A) (y:=UO a[i]) F2.ok C (by rw [F2.lim];exact s) (by omega) (au.mono (J2 _) (λ_ _ _=>rfl) (λi q h=>⟨by omega,λo n e H=>by have:=P i o n e H;omega⟩) _ _ S) (by rw [KN,ags];omega);have F5:Ext m M5:=⟨K,by omega,by rw [l5,F2.lim],λi q=>by rw [z i q,F2.old i q]⟩;have u:=S.row;have ht:jP (a.take i) ++ [UO a[i]]=jP (a.take (i+1)):=by rw [Dk,Dk,aa1 b,abK];rfl
  rw [ht] at p;obtain⟨c',out',x6',M',Z,L,q2⟩:=ih (i+1) (by omega) tt v5 (.ptr M.nx 0) M5 N F5 p (by omega);refine⟨c',out',x6',M',?_,L,q2⟩;have J:rows[i].length=4:=by omega
  have O:Go.AM.uW (some (o7 (r4 0 0 [] nS))) 0 rows[i]=some (o7 rows[i]):=by rw [Go.AM.gZ (by simp [J]) (by simp)];simp [J]
  have ld:Go.AM.CY (some (o7 rows[i])) 0 4=some (.agg rows[i]):=by rw [fP (by omega) (by omega),U9,W9 (by omega)]
  have W:K5 rows[i]=true:=w.2;have y4:=λx ls env B=>aps u.1 (x:=x) (ls:=ls) (env:=env) B;have R:=E.ok;have s:=D;rw [p9,← Z];simp [Nw,aX R s,w9,t,U,f,J,O,W,gn,ld,X,afj,y4,u.1,Y,po,P9 (i:=i) (by omega)]
theorem Og {n fu r:Nat}(w:20000<=fu)(b:CFd n fu r):CFl (n+1) fu r:=by intro m v l o x h u z t;obtain⟨p,g,j⟩:=h;have a:=g.slice.len;rw [D9.len j] at a;have y:=Q8 l;obtain⟨F,c,D,M',q,E,T,f,A,B,G,C⟩:=abu b o x l g j u z t l.length 0 (by omega) .undef nS .undef m fu (Ext.refl o) (by rw [ahU,jP];exact abr _ _) (by omega);refine⟨c,M',?_,E,f,A.s.mono (J2 _) (λ_ _ _=>rfl) (λi _ h=>h),D9.mono (J2 _) (λ_ _ _=>rfl) (λi _ h=>C i h) _ _ B⟩;have e:I4 (λd m k=>Nw (j6 KW fu n) fu none d m k) fu (pJ v (iV 0) (iV (l.length:Int)) .undef v nS .undef nS) m []=_:=q;rw [enter (sf:=f55) rfl rfl];simp [f55,a,e]
theorem abv {m:Mem}(c:m.Ok)(r:List d9)(hp:0<r.length){S:Nat->Prop}(a:S m.nx):jf (ext m [o7 r]) S r.length (.slice m.nx 0 1 1) [r]:=
 .inr ⟨m.nx,0,a,.inl ⟨1,by simp,by simp⟩,by simp,.inr ⟨1,T.ofList [r],by rw [A8 c];simp [o7];rfl,by simp,by simp,λi b=>by
  obtain rfl:i=0:=by simpa using b
  rw [T.aC];rfl⟩⟩
theorem Yl {x:Ex}(h:tQ x=true)(b:iK x=true):OD x=false∧unE [] x=false∧iJ x<=2∧gQ x<=2:=by obtain⟨k,n,s,a⟩:=x;simp only [tQ,aci,q8,decide_eq_true_eq] at h;rcases h with rfl | ⟨rfl,h⟩;obtain⟨rfl,_,_⟩:=oZ b (.inl rfl);simp [OD,UN,unE,unL,iJ,R5,gQ,U5];obtain⟨rfl,rfl,y,rfl,c⟩:=zW b (.inl rfl);obtain⟨d,f,g,e⟩:=y;have h:d=1:=h;subst h;obtain⟨rfl,_,_⟩:=oZ c (.inl rfl);simp [OD,UN,unE,unL,iJ,R5,gQ,U5]
theorem IL:∀{l:List Ex},Sb l=true->V6 l=true->UN l=false∧unL [] l=false
 | [],_,_=>⟨rfl,rfl⟩
 | e::l,h,hf=>by rw [Sb,q8] at h;rw [V6,q8] at hf;obtain⟨h1,h2,_⟩:=Yl h.1 hf.1;obtain⟨h3,h4⟩:=IL h.2 hf.2;rw [UN,unL,h1,h2,h3,h4];exact⟨rfl,rfl⟩
theorem Ym {k n:Int}{s:List UInt8}{a:List Ex}(b:iK (.mk k n s a)=true)(f:a≠[])(g:k≠3)(h:Sb a=true):OD (.mk k n s a)=false∧unE [] (.mk k n s a)=false:=by
 have i:V6 a=true:=by rw [iK] at b;exact ((q8 _ _).mp b).2
 obtain⟨c,d⟩:=IL h i;have j:k≠2:=λe=>by subst e;exact f (oZ b (.inr rfl)).1
 rw [OD,unE,c,d,decide_eq_false g,decide_eq_false j];exact⟨rfl,rfl⟩
theorem afk {k n:Int}{s:List UInt8}{x:Ex}{l:List Ex}(c:iK (.mk k n s (x::l))=true)(h:tQ (.mk k n s (x::l))=true)(d:(match x with | .mk _ nx _ _=>nx)≠0):OE k n s (x::l)=.mk k n s (x::l):=by
 simp only [tQ,aci,q8,decide_eq_true_eq] at h;rcases h with rfl | ⟨rfl,h⟩;obtain⟨h,_,_⟩:=oZ c (.inl rfl);cases h;obtain⟨rfl,rfl,y,b,g⟩:=zW c (.inl rfl);cases b;obtain⟨i,a,p,j⟩:=x;have h:i=1:=h;subst h;obtain⟨rfl,e,_⟩:=oZ g (.inl rfl);obtain⟨m,o,rfl⟩:=e rfl;have d:a≠0:=d;unfold OE;have f:qm [] (.mk 4 0 [] [.mk 1 a [] []])=(-a,0):=by simp [qm,vlL,Uq]
 rw [f];have:¬ ([Ex.mk 1 a [] []]=[]∨(4:Int)=3∨Sb [.mk 1 a [] []]=false):=by simp [Sb,tQ]
 rw [if_neg this,if_pos rfl];unfold Gv;rw [if_pos (by show -a<0;omega)];show Ex.mk 4 0 [] [.mk 1 (- -a) [] []]=_;rw [Int.neg_neg]
theorem Yn {n fu r:Nat}(ae:20000<=fu)(hn:160<=n)(hr:r+1<=20)(an:CFl n fu r):CFd (n+1) fu (r+1):=by
 intro m b8 e hm hl h hf hp hL;obtain⟨k,f,s,a⟩:=e;obtain⟨v,aj,rfl,q1,q2⟩:=h;have cv:=q1.slice.cells;have ov:=q1.slice.w9;have ha:V6 a=true:=by rw [iK] at hf;exact ((q8 _ _).mp hf).2
 have V:=Oe hf (KN a) (KO a ha);have b6:=zZ a;have ar:iJ (.mk k f s (jP a))<=500:=by rw [iJ] at hp ⊢;omega
 have ao:gQ (.mk k f s (jP a))<=20:=by rw [gQ] at hL ⊢;omega
 have b3:=Q8 (jP a);rw [iJ] at ar;rw [gQ] at ao;rw [iJ] at hp;rw [gQ] at hL;have E0:=G7 hm [o7 (r4 k f s v),o7 (r4 0 0 [] nS)];have L:∀{M:Mem},Ext m M->M.lim<=M.nx:=λE=>by rw [E.lim];exact aP hl E.nx
 have ax:(ext m [o7 (r4 k f s v),o7 (r4 0 0 [] nS)]).nx=m.nx+2:=by simp
 have A:(ext m [o7 (r4 k f s v),o7 (r4 0 0 [] nS)]).get m.nx=some (o7 (r4 k f s v)):=by rw [A8 hm];rfl
 have ak:(ext m [o7 (r4 k f s v),o7 (r4 0 0 [] nS)]).get (m.nx+1)=some (o7 (r4 0 0 [] nS)):=by rw [O4 hm];rfl
 obtain⟨p,M1,C,E1,rows',p1,p2⟩:=an _ v a E0.ok (L E0) ⟨aj,q1.mono E0.nx (λi hi _=>E0.old i hi) (λ_ _ h=>h),Gt E0 q2⟩ ha (by omega) (by omega);have F1:=E0.trans E1;have n1:=E1.nx;rw [ax] at n1 p1 p2;have D:M1.get m.nx=some (o7 (r4 k f s v)):=(E1.old _ (by omega)).trans A;have al:M1.get (m.nx+1)=some (o7 (r4 0 0 [] nS)):=(E1.old _ (by omega)).trans ak;have B:=p1.slice.cells;have F:=p1.slice.w9;have G:=KV p1.slice;have aa:M1.lim<=m.nx:=by rw [F1.lim];exact hl
 have ac:m.nx<M1.nx:=by omega
 have H:=sB aa;have ad:(M1.set m.nx (o7 (r4 k f s p))).Ok:=Mem.Ok.set F1.ok ac _;have o:(M1.set m.nx (o7 (r4 k f s p))).get m.nx=some (o7 (r4 k f s p)):=J9 F1.ok _ ac rfl;have a6:∀i,i≠m.nx->(M1.set m.nx (o7 (r4 k f s p))).get i=M1.get i:=λi hi=>J6 F1.ok _ ac hi;have am:(M1.set m.nx (o7 (r4 k f s p))).get (m.nx+1)=some (o7 (r4 0 0 [] nS)):=(a6 _ (by omega)).trans al;have n2:(M1.set m.nx (o7 (r4 k f s p))).nx=M1.nx:=rfl;have l2:(M1.set m.nx (o7 (r4 k f s p))).lim<=m.nx:=aa;have a9:jf (M1.set m.nx (o7 (r4 k f s p))) (λi=>m.nx+2<=i) 4 p rows':=p1.mono (J2 _) (λi hi h=>a6 i (by omega)) (λ_ _ h=>h);have a0:D9 (M1.set m.nx (o7 (r4 k f s p))) (λi=>m.nx+2<=i) (jP a) rows':=D9.mono (m:=M1) (m':=M1.set m.nx (o7 (r4 k f s p))) (J2 M1.nx) (λi hi h=>a6 i (by omega)) (λ_ _ h=>h) _ _ p2;have ah:∀i,i<m.nx->(M1.set m.nx (o7 (r4 k f s p))).get i=m.get i:=λi hi=>by rw [a6 i (by omega),F1.old i hi]
 have S:(M1.set m.nx (o7 (r4 k f s p))).lim=m.lim:=F1.lim;generalize hM2:M1.set m.nx (o7 (r4 k f s p))=M2 at *;have x2:au M2 (λi=>m.nx+2<=i) (.mk k f s (jP a)) (r4 k f s p):=⟨p,rows',rfl,a9,a0⟩;have j:=a9.slice.len;rw [D9.len a0] at j;have ab:∀(M:Mem),Ext M2 M->∀(w:List d9),w.length=4->K5 w=true->∀(y:Ex),au M (λi=>m.nx+2<=i) y w->
   (∀(β:Type) a8 vs (k:Mem->Option β),storeAt M (m.nx+1) a8 vs k=bi (K5 vs) (ob (Go.AM.uW (M.get (m.nx+1)) a8 vs) λb=>k (M.set (m.nx+1) b)) none)∧M.get (m.nx+1)=some (o7 (r4 0 0 [] nS))∧M.get m.nx=some (o7 (r4 k f s p))∧
   (M.set (m.nx+1) (o7 w)).get (m.nx+1)=some (o7 w)∧Ext m (M.set (m.nx+1) (o7 w))∧au (M.set (m.nx+1) (o7 w)) (λi=>m.nx<=i) y w:=λM EM w hw b7 y hy=>by
  have hn:=EM.nx;have a7:m.nx+1<M.nx:=by omega
  refine⟨λβ a8 vs k=>iq (by rw [EM.lim,S];omega) a8 vs k,(EM.old _ (by omega)).trans am,(EM.old _ (by omega)).trans o,J9 EM.ok _ a7 rfl,⟨Mem.Ok.set EM.ok a7 _,by show m.nx<=M.nx;omega,by show M.lim=_;rw [EM.lim,S],λi hi=>by rw [J6 EM.ok _ a7 (by omega),EM.old i (by omega),ah i hi]⟩,au.mono (m:=M) (m':=M.set (m.nx+1) (o7 w)) (J2 M.nx) (λi hi h=>J6 EM.ok _ a7 (by omega)) (λi _ h=>by omega) _ _ hy⟩
 have K:∀(M:Mem) (EM:Ext M2 M),_:=λM EM=>ab M EM (r4 k f s p) rfl x2.row.2 (.mk k f s (jP a)) (Gs EM x2);have e0:UO (.mk k f s a)=OE k f s (jP a):=by rw [UO]
 rw [e0];by_cases c1:jP a=[];obtain⟨N,O,P,Q,Y,Z⟩:=K M2 (Ext.refl ad);have e:OE k f s (jP a)=.mk k f s (jP a):=by unfold OE;rw [if_pos (.inl c1)]
 rw [c1] at j;refine⟨(r4 k f s p),_,?_,Y,by rw [e];exact Z⟩;rw [enter (sf:=f103) rfl rfl];simp [f103,H8,I8,cv,ov,B,F,A,C,G,D,H,hM2,o,j,N,O,P,Q];have b2:(jP a).length≠0:=λq=>c1 (aa2.1 q);by_cases c2:k=3;subst c2;obtain⟨N,O,P,Q,Y,Z⟩:=K M2 (Ext.refl ad);have e:OE 3 f s (jP a)=.mk 3 f s (jP a):=by unfold OE;rw [if_pos (.inr (.inl rfl))]
 refine⟨(r4 3 f s p),_,?_,Y,by rw [e];exact Z⟩;rw [enter (sf:=f103) rfl rfl];simp [f103,H8,I8,cv,ov,B,F,A,C,G,D,H,hM2,o,j,c1,N,O,P,Q];have aq:V6 (jP a)=true:=KO a ha;have ap:CN 196 (n-3+1) fu 20:=by rw [show n-3+1=(n-4)+2 from by omega];exact abq
 obtain⟨M3,x,E3⟩:=ajI (n:=n-3) (fu:=fu) (d:=20) ae ap ad (by omega) (jP a) ⟨rows',a9.mono (J2 _) (λ_ _ _=>rfl) (λ_ _ _=>trivial),D9.mono (J2 _) (λ_ _ _=>rfl) (λ_ _ _=>trivial) _ _ a0⟩ aq (by omega) (by omega);rw [show n-3+3=n from by omega] at x;by_cases c3:Sb (jP a)=false;obtain⟨N,O,P,Q,Y,Z⟩:=K M3 E3;have e:OE k f s (jP a)=.mk k f s (jP a):=by unfold OE;rw [if_pos (.inr (.inr c3))]
 rw [c3] at x;refine⟨(r4 k f s p),_,?_,Y,by rw [e];exact Z⟩;rw [enter (sf:=f103) rfl rfl];simp [f103,H8,I8,cv,ov,B,F,A,C,G,D,H,hM2,o,j,c1,c2,x,N,O,P,Q];have c3:Sb (jP a)=true:=by simpa using c3
 rw [c3] at x;have b4:=E3.nx;have F3L:M3.lim<=M3.nx:=by rw [E3.lim,S];omega
 have x3:∀{M:Mem},Ext M2 M->au M (λ_=>True) (.mk k f s (jP a)) (r4 k f s p):=λ{M} EM=>au.mono (m:=M2) (m':=M) EM.nx (λi hi _=>EM.old i hi) (λ_ _ _=>trivial) _ _ x2;obtain⟨M4,g,E4⟩:=Sc E3.ok F3L (x3 E3) V (n-1) fu;rw [show n-1+1=n from by omega] at g;have E34:=E3.trans E4;obtain⟨az,b0⟩:=Ym V c1 c2 c3;have R:M3.get m.nx=some (o7 (r4 k f s p)):=(E3.old _ (by omega)).trans o;have t:M4.get m.nx=some (o7 (r4 k f s p)):=(E34.old _ (by omega)).trans o;obtain⟨y,l,W⟩:∃y l,jP a=y::l:=by cases h:jP a with | nil=>exact absurd h c1 | cons y l=>exact⟨y,l,rfl⟩
 obtain⟨ky,ny,sy,ay⟩:=y;have af:=D9.len a0;obtain⟨aw,o1,a1,a2,a3,a4,a5⟩:=(a9.slice.ext E34).at (i:=0) (by rw [af,W];simp);have ag:=D9.get (l:=jP a) a0 0 (by rw [W];simp) (by rw [af,W];simp);have av:(jP a)[0]'(by rw [W];simp)=.mk ky ny sy ay:=by simp [W]
 rw [av] at ag;obtain⟨vx,b1,rx,_,_⟩:=ag;rw [rx] at a5;have I:=a5 1 (by omega);have I:ld1 (M4.get aw) (o1+1)=some (iV ny):=I;have J:=a1;simp at J;by_cases c4:tQ (.mk k f s (jP a))=true∧ny≠0;obtain⟨N,O,P,Q,Y,Z⟩:=K M4 E34;have e:OE k f s (jP a)=.mk k f s (jP a):=by rw [W] at V c4 ⊢;exact afk V c4.1 c4.2
 obtain⟨c4,c5⟩:=c4;rw [c4] at g;refine⟨(r4 k f s p),_,?_,Y,by rw [e];exact Z⟩;rw [enter (sf:=f103) rfl rfl];simp [f103,H8,I8,cv,ov,B,F,A,C,G,D,H,hM2,o,j,c1,c2,x,R,g,t,J,I,c5,N,O,P,Q];have u:(tQ (.mk k f s (jP a))=true->ny=0):=λh=>Decidable.byContradiction λq=>c4 ⟨h,q⟩;have F4L:M4.lim<=M4.nx:=by rw [E34.lim,S];have:=E34.nx;omega
 obtain⟨M5,T,E5⟩:=abn fu ae n 20 (by omega) (by omega) M4 (r4 k f s p) (.mk k f s (jP a)) E34.ok F4L (x3 E34) V az b0 (by rw [iJ];omega) (by rw [gQ];omega);have E45:=E34.trans E5;have U:M5.get m.nx=some (o7 (r4 k f s p)):=(E45.old _ (by omega)).trans o;have hz:=Yh V;have ef:OE k f s (jP a)=if (qm [] (.mk k f s (jP a))).2=0 then Gv (qm [] (.mk k f s (jP a))).1 else .mk k f s (jP a):=by unfold OE;rw [if_neg (λq=>by rcases q with q | q | q;exact c1 q;exact c2 q;rw [c3] at q;cases q)]
 rw [ef];generalize qm [] (.mk k f s (jP a))=z at *;simp only [nW,q8,decide_eq_true_eq] at hz;by_cases z2:z.2=0
 case neg=>
  obtain⟨N,O,P,Q,Y,Z⟩:=K M5 E45;refine⟨(r4 k f s p),_,?_,Y,by rw [if_neg z2];exact Z⟩;rw [enter (sf:=f103) rfl rfl];cases hb:tQ (.mk k f s (jP a)) with
  | false=>rw [hb] at g;simp [f103,H8,I8,cv,ov,B,F,A,C,G,D,H,hM2,o,j,c1,c2,x,R,g,t,J,I,u,t,T,z2,U,N,O,P,Q]
  | true=>rw [hb] at g;have u:=u hb;subst u;simp [f103,H8,I8,cv,ov,B,F,A,C,G,D,H,hM2,o,j,c1,c2,x,R,g,t,J,I,t,T,z2,U,N,O,P,Q]
 rw [if_pos z2];have on:Go.AM.w9 nS=true:=rfl;have ai:∀a b c d,Go.AM.w9 (.slice a b c d)=true:=λ_ _ _ _=>rfl;have w0:mK (0-z.1)=-z.1:=by rw [O0 (by omega) (by omega)];omega
 have w1:nY .i64 (-z.1)=-z.1:=O0 (n:=-z.1) (by omega) (by omega);by_cases z1:z.1<0;have X:=G7 E45.ok [o7 (r4 1 (-z.1) [] nS)];have b5:=E45.nx;have EX:=E45.trans X;have tr:au (ext M5 [o7 (r4 1 (-z.1) [] nS)]) (λi=>m.nx+2<=i) (.mk 4 0 [] [.mk 1 (-z.1) [] []]) (r4 4 0 [] (.slice M5.nx 0 1 1)):=
  ⟨_,[(r4 1 (-z.1) [] nS)],rfl,abv E45.ok (r4 1 (-z.1) [] nS) (by simp) (by omega),_,[],rfl,⟨_,[],rfl,.inl ⟨rfl,rfl⟩,rfl⟩,rfl⟩
 obtain⟨N,O,P,Q,Y,Z⟩:=ab _ EX (r4 4 0 [] (.slice M5.nx 0 1 1)) rfl rfl _ tr;refine⟨(r4 4 0 [] (.slice M5.nx 0 1 1)),_,?_,Y,by rw [Gv,if_pos z1];exact Z⟩;rw [enter (sf:=f103) rfl rfl];cases hb:tQ (.mk k f s (jP a)) with
 | false=>rw [hb] at g;simp [f103,H8,I8,cv,ov,B,F,A,C,G,D,H,hM2,o,j,c1,c2,x,R,g,t,J,I,u,t,T,z2,z1,U,w0,w1,afj,on,ai,N,O,P,Q]
 | true=>rw [hb] at g;have u:=u hb;subst u;simp [f103,H8,I8,cv,ov,B,F,A,C,G,D,H,hM2,o,j,c1,c2,x,R,g,t,J,I,t,T,z2,z1,U,w0,w1,afj,on,ai,N,O,P,Q]
 obtain⟨N,O,P,Q,Y,Z⟩:=ab M5 E45 (r4 1 z.1 [] nS) rfl rfl (.mk 1 z.1 [] []) ⟨_,[],rfl,.inl ⟨rfl,rfl⟩,rfl⟩;refine⟨(r4 1 z.1 [] nS),_,?_,Y,by rw [Gv,if_neg z1];exact Z⟩;rw [enter (sf:=f103) rfl rfl];cases hb:tQ (.mk k f s (jP a)) with
 | false=>rw [hb] at g;simp [f103,H8,I8,cv,ov,B,F,A,C,G,D,H,hM2,o,j,c1,c2,x,R,g,t,J,I,u,t,T,z2,z1,U,on,N,O,P,Q]
 | true=>rw [hb] at g;have u:=u hb;subst u;simp [f103,H8,I8,cv,ov,B,F,A,C,G,D,H,hM2,o,j,c1,c2,x,R,g,t,J,I,t,T,z2,z1,U,on,N,O,P,Q]
theorem abw (fu:Nat)(a:20000<=fu):∀r n:Nat,r<=20->200+2*r<=n->CFd n fu r∧CFl n fu r:=by
 intro r;induction r with
 | zero=>
  intro n f d;have b:∀n,CFd n fu 0:=λn m i e o l h j p g=>by cases e;rw [gQ] at g;omega
  obtain⟨n,rfl⟩:∃k,n=k+1:=⟨n-1,by omega⟩;exact⟨b _,Og a (b n)⟩
 | succ r ih=>
  intro n f d;have c:∀n,201+2*r<=n->CFd n fu (r+1):=λn d=>by obtain⟨n,rfl⟩:∃k,n=k+1:=⟨n-1,by omega⟩;exact Yn a (by omega) f (ih n (by omega) (by omega)).2
  obtain⟨n,rfl⟩:∃k,n=k+1:=⟨n-1,by omega⟩;exact⟨c _ (by omega),Og a (c n (by omega))⟩
def AcS (lo:Nat)(M:Mem)(v:d9)(l:List ak):Prop:=∃(T:Nat->Prop) (rows:List (List d9)),gB lo 5 M v rows∧H7 M T l rows∧(∀i o n e,v=.sliceU i o n e->¬ T i)∧∀i,T i->lo<=i
theorem abx (lo:Nat)(M:Mem):AcS lo M nS []:=⟨λ_=>False,[],gB.nil _ _ _,rfl,λ_ _ _ _ h=>(by cases h),λ_ h=>h.elim⟩
theorem Yo {lo:Nat}{M:Mem}{v:d9}{d:List ak}{y:ak}{row:List d9}(A:M.Ok)(H:AcS lo M v d)(l:M.lim<=lo)(J:lo<=M.nx)(B:mD M (λi=>lo<=i∧∀o n e,v≠.sliceU i o n e) y row)(k:d.length+1<=100000):
  ∃v5 M5,(∀(s z:OF) (cf:D7) (ls:List d9) (env:T d9),s ls env=v->z ls env=.slice M.nx 0 1 1->qF 5 96 s z cf ls env (ext M [o7 row])=some [⟨v5,M5⟩])∧AcS lo M5 v5 (d ++ [y])∧M5.Ok∧M.nx<=M5.nx∧M5.lim=M.lim∧(∀i,i<lo->M5.get i=M.get i)∧∀{β:Type} (p:d9->β) q,bg v5 p q=q:=by
 obtain⟨T,c,w,x,D,G⟩:=H;have f:=B.row;have E:=G7 A [o7 row];have t:=H7.len x;have K:fQ (ext M [o7 row]) 5 (.slice M.nx 0 1 1) [row]:=by have:=AY A row (by omega);rw [f.1] at this;exact this
 have N:(ext M [o7 row]).nx=M.nx+1:=by simp
 have I:c.length+1<=100000:=by rw [t];exact k
 obtain⟨v5,M5,C,m,F,u⟩:=Kh (lo:=lo) (rs:=5) (bytes:=96) (r:=row) E.ok (by rw [E.lim];exact l) (by omega) (by omega) (w.ext E) K f.1 f.2 I ⟨by omega,by omega⟩;have g:∀i,i<M.nx->(∀o n e,v≠.sliceU i o n e)->M5.get i=M.get i:=λi a b=>by rw [u i (by omega) b,E.old i a]
 have L:∀i o n e,v=.sliceU i o n e->lo<=i:=λi o n e b=>by subst b;exact (w.lt rfl).1
 have O:=F.nx;refine⟨v5,M5,C,⟨λi=>((T i∨(lo<=i∧∀o n e,v≠.sliceU i o n e))∧i<M.nx),c ++ [row],m.down (by omega),H7.snoc ?_ ?_,λi o n e b h=>?_,λi h=>?_⟩,F.ok,by omega,by rw [F.lim,E.lim],λi a=>g i (by omega) λo n e b=>by have:=L i o n e b;omega,λp q=>m.slice.mq p q⟩;exact H7.mono (by omega) (λi a j=>g i a λo n e b=>D i o n e b j) (λi a j=>⟨.inl j,a⟩) _ _ x;exact mD.mono (by omega) (λi a j=>g i a j.2) (λi a j=>⟨.inr j,a⟩) _ _ B;have:=(m.lt b).1;rw [N] at this;omega;rcases h.1 with h | h;exact G i h;exact h.1
theorem apt (z:List d9)(ps:List (Nat×Nat×OF))(ls:List d9)(env:T d9)(a:Nat)(h:z.length=5):U6 5 1 z ps ls env a=ob (lay ps ls env z) λcells=>if cells.length=5 then some (.slice a 0 1 1,some (o7 cells)) else none:=kJ 5 z ps ls env a h
theorem apu {row:List d9}(h:row.length=5){x:OF}{ls:List d9}{env:T d9}(a:x ls env=.agg row):lay [(0,5,x)] ls env (r5 0 [] nS nS nS)=some row:=by rw [PZ];simp only [a,HZ,h];simp [h]
def CFs (n fu r:Nat):Prop:=∀(m:Mem) (v:d9) (l:List ak),m.Ok->m.lim<=m.nx->U2 m (λ_=>True) l v->eO l=true->Z0 l<=500->aR l<=r->
 ∃v' m',j6 KW fu n (.func 22) [v] m=some [⟨v',m'⟩]∧Ext m m'∧U2 m' (λi=>m.nx<=i) (qC l) v'
theorem Oh:∀{l:List ak},eO l=true↔∀x∈l,Bf x=true
 | []=>by simp [eO]
 | e::l=>by rw [eO,q8,Oh];simp
theorem aby {n fu r:Nat}(a7:∀k,k<=20->CFl n fu k)(O:CFs n fu r)(av:r<=20){m:Mem}(hm:m.Ok)(hl:m.lim<=m.nx){v:d9}{rows:List (List d9)}(a:List ak)(h1:jf m (λ_=>True) 5 v rows)(h2:H7 m (λ_=>True) a rows)(hf:eO a=true)(hp:Z0 a<=500)(hL:aR a<=r+1):
  ∀(j i:Nat),i+j=a.length->∀(c x5 out:d9) (M:Mem) (N:Nat),Ext m M->AcS m.nx M out (qC (a.take i))->j+1<=N->
  ∃c' x5' out' M',I4 (λenv m k=>Iq (j6 KW fu n) fu none env m k) N (pJ v (iV (i:Int)) (iV (a.length:Int)) c v x5 out nS) M []=some [⟨.exit 0,(pJ v (iV (a.length:Int)) (iV (a.length:Int)) c' v x5' out' nS),M',[],none⟩]∧Ext m M'∧AcS m.nx M' out' (qC a):=by
 have ab:=H7.len h2;have aw:=bD a;intro j;induction j with
 | zero=>
  intro i b c x5 out M N E P hN;obtain⟨N,rfl⟩:∃k,N=k+1:=⟨N-1,by omega⟩;obtain rfl:i=a.length:=by omega
  rw [agq] at P;refine⟨.bool false,x5,out,M,?_,E,P⟩;rw [p9];simp [Iq]
 | succ j ih=>
  intro i b c x5 out M N E P hN;obtain⟨N,rfl⟩:∃k,N=k+1:=⟨N-1,by omega⟩;have p:i<a.length:=by omega
  have D:i<rows.length:=by omega
  have R:(i:Int)<(a.length:Int):=by omega
  have w:∀{M:Mem},Ext m M->M.lim<=M.nx:=λE=>by rw [E.lim];exact aP hl E.nx
  obtain⟨ay,o1,a1,a2,a3,a4,a5⟩:=(h1.slice.ext E).at D;have hx:=H7.get h2 i p D;have ao:=hx.row.2;have G:=a4 0 5 (by omega) (by omega);rw [U9,W9 (by omega),Y6] at G;have ac:=mE a i p;have a9:=vF a i p;have aa:Bf a[i]=true:=Oh.1 hf _ (aa3 p);have ht:qC (a.take i) ++ [fdS a[i]]=qC (a.take (i+1)):=by rw [zY,zY,aa1 p,abK];rfl
  generalize hX:a[i]=X at *;obtain⟨k,s,e,t,f⟩:=X;obtain⟨F,A,u,re,rt,rf,hR,e1,e2,t1,t2,f1,f2⟩:=hx;rw [hR] at G ao;obtain⟨_,fe,ft,ff,_⟩:=II aa;rw [stP] at ac;rw [wh] at a9;have E0:=G7 E.ok [o7 (r5 k s F A u)];have F0:=E.trans E0;have gn:(ext M [o7 (r5 k s F A u)]).get M.nx=some (o7 (r5 k s F A u)):=by rw [A8 E.ok];rfl
  have az:(ext M [o7 (r5 k s F A u)]).nx=M.nx+1:=by simp
  have ax:=E.nx;obtain⟨d,M1,g1,E1,w1⟩:=a7 20 (J2 _) _ F e F0.ok (w F0) ⟨re,e1.mono F0.nx (λi b _=>F0.old i b) (λ_ _ h=>h),Gt F0 e2⟩ fe (by omega) (by omega);have F1:=F0.trans E1;obtain⟨l,M2,g2,E2,w2⟩:=O _ A t F1.ok (w F1) (U2.ext ⟨rt,t1,t2⟩ F1) ft (by omega) (by omega);have F2:=F1.trans E2;obtain⟨q,M3,g3,E3,w3⟩:=O _ u f F2.ok (w F2) (U2.ext ⟨rf,f1,f2⟩ F2) ff (by omega) (by omega);have F3:=F2.trans E3;have n1:=E1.nx;have n2:=E2.nx;have n3:=E3.nx;have K:M1.get M.nx=some (o7 (r5 k s F A u)):=(E1.old _ (by omega)).trans gn;have L:M2.get M.nx=some (o7 (r5 k s F A u)):=(E2.old _ (by omega)).trans K;have a6:M3.get M.nx=some (o7 (r5 k s F A u)):=(E3.old _ (by omega)).trans L;obtain⟨ah,Z,u2⟩:=w1;obtain⟨aj,y1,y2⟩:=w2;obtain⟨ai,z1,z2⟩:=w3;have ap:=eH e1.slice 99;have ar:=eH t1.slice 99;have aq:=eH f1.slice 99;have V:=eH Z.slice 99;have Y:=eH y1.slice 99;have W:=eH z1.slice 99;have oe:=Z.slice.w9;have ot:=y1.slice.w9;have ae:=z1.slice.w9;have ce:=Z.slice.cells;have ct:=y1.slice.cells;have a0:=z1.slice.cells;have pe:=KV Z.slice;have pt:=KV y1.slice;have pf:=KV z1.slice;have lq:M3.lim<=M.nx:=by rw [F3.lim];omega
  have z:M.nx<M3.nx:=by omega
  have al:=sB lq;have H:∀B,(M3.set M.nx B).Ok:=λB=>Mem.Ok.set F3.ok z _;have g4:∀B,(M3.set M.nx B).get M.nx=some B:=λB=>J9 F3.ok _ z rfl;have am:=λB (β:Type) off vs (k:Mem->Option β)=>iq (m:=M3.set M.nx B) lq off vs k;have I:∀B C,((M3.set M.nx B).set M.nx C).Ok:=λB C=>Mem.Ok.set (H B) z _;have g5:∀B C,((M3.set M.nx B).set M.nx C).get M.nx=some C:=λB C=>J9 (H B) _ z rfl;have an:=λB C (β:Type) off vs (k:Mem->Option β)=>iq (m:=(M3.set M.nx B).set M.nx C) lq off vs k;obtain⟨M6,g⟩:∃M6,M6=((M3.set M.nx (o7 (r5 k s d A u))).set M.nx (o7 (r5 k s d l u))).set M.nx (o7 (r5 k s d l q)):=⟨_,rfl⟩;have af:M6.Ok:=g▸Mem.Ok.set (I _ _) z _;have g6:M6.get M.nx=some (o7 (r5 k s d l q)):=g▸J9 (I _ _) _ z rfl;have n6:M6.nx=M3.nx:=by rw [g];rfl
  have l6:M6.lim=M3.lim:=by rw [g];rfl
  have y:∀i,i≠M.nx->M6.get i=M3.get i:=λi b=>by rw [g,J6 (I _ _) _ z b,J6 (H _) _ z b,J6 F3.ok _ z b]
  have au:∀i o n e,out=.sliceU i o n e->i<M.nx:=λi o n e S=>by obtain⟨T,b8,q1,_⟩:=P;exact (q1.lt S).2
  have a8:AcS m.nx M6 out (qC (a.take i)):=by
   obtain⟨T,J,b1,b2,b3,b4⟩:=P;have EE:=(E0.trans E1).trans (E2.trans E3);have ob:∀i,i<M.nx->M6.get i=M.get i:=λi b=>by rw [y i (by omega),EE.old i b]
   exact⟨λi=>T i∧i<M.nx,J,b1.keep (by omega) (λi _ b=>ob i b),H7.mono (by omega) (λi b _=>ob i b) (λi b h=>⟨h,b⟩) _ _ b2,λi o n e S h=>b3 i o n e S h.1,λi h=>b4 i h.1⟩
  have hr:mD M6 (λi=>m.nx<=i∧∀o n e,out≠.sliceU i o n e) (fdS (.mk k s e t f)) (r5 k s d l q):=by
   rw [fdS];have b6:∀i,i≠M.nx->M6.get i=M3.get i:=y;have S1:∀i,M.nx+1<=i->(m.nx<=i∧∀o n e,out≠.sliceU i o n e):=λi h=>⟨by omega,λo n e S=>by have:=au i o n e S;omega⟩;refine⟨d,l,q,ah,aj,ai,rfl,Z.mono (by omega) (λi b h=>by rw [y i (by omega),E3.old i (by omega),E2.old i b]) (λi _ h=>S1 i (by omega)),D9.mono (by omega) (λi b h=>by rw [y i (by omega),E3.old i (by omega),E2.old i b]) (λi _ h=>S1 i (by omega)) _ _ u2,
    y1.mono (by omega) (λi b h=>by rw [y i (by omega),E3.old i b]) (λi _ h=>S1 i (by omega)),H7.mono (by omega) (λi b h=>by rw [y i (by omega),E3.old i b]) (λi _ h=>S1 i (by omega)) _ _ y2,
    z1.mono (by omega) (λi b h=>by rw [y i (by omega)]) (λi _ h=>S1 i (by omega)),H7.mono (by omega) (λi b h=>by rw [y i (by omega)]) (λi _ h=>S1 i (by omega)) _ _ z2⟩
  obtain⟨v5,M5,gb,Q,ag,n5,l5,U,po⟩:=Yo af a8 (by rw [l6,F3.lim];exact hl) (by omega) hr (by rw [zY,acp,ags];omega);rw [ht] at Q;have F5:Ext m M5:=⟨ag,by omega,by rw [l5,l6,F3.lim],λi b=>by rw [U i b,y i (by omega),F3.old i b]⟩;obtain⟨c',x5',out',M',gg,q1,q2⟩:=ih (i+1) (by omega) tt (.ptr M.nx 0) v5 M5 N F5 Q (by omega);refine⟨c',x5',out',M',?_,q1,q2⟩;have b0:=e1.slice.w9;have b7:=t1.slice.w9;have b5:=f1.slice.w9;have ad:=λx ls env hx=>apu (row:=(r5 k s d l q)) rfl (x:=x) (ls:=ls) (env:=env) hx;have hl:=w E;rw [p9,← gg];simp [Iq,aX E.ok hl,R,a1,G,ao,gn,K,L,a6,g1,g2,g3,pe,pt,pf,al,am,an,g4,g5,oe,ot,ae,ce,ct,a0,ap,ar,aq,V,Y,W,← g,g6,apt,ad,gb,po,P9 (i:=i) (by omega)]
theorem Yp {n fu r:Nat}(x:20000<=fu)(f:∀k,k<=20->CFl n fu k)(e:CFs n fu r)(B:r<=20):CFs (n+1) fu (r+1):=by intro m v l p y h w A u;obtain⟨q,j,o⟩:=h;have a:=j.slice.len;rw [H7.len o] at a;have z:=bD l;obtain⟨H,G,b,M',t,E,T,g,C,D,I,F⟩:=aby f e B p y l j o w A u l.length 0 (by omega) .undef .undef nS m fu (Ext.refl p) (by rw [ahU,qC];exact abx _ _) (by omega);refine⟨b,M',?_,E,g,C.s.mono (J2 _) (λ_ _ _=>rfl) (λi _ h=>h),H7.mono (J2 _) (λ_ _ _=>rfl) (λi _ h=>F i h) _ _ D⟩;have d:I4 (λc m k=>Iq (j6 KW fu n) fu none c m k) fu (pJ v (iV 0) (iV (l.length:Int)) .undef v .undef nS nS) m []=_:=t;rw [enter (sf:=f22) rfl rfl];simp [f22,a,d]
theorem afl (fu:Nat)(b:20000<=fu):∀r n:Nat,r<=20->260+r<=n->CFs n fu r:=by
 intro r;induction r with
 | zero=>
  intro n u q m v l p x h w y j;obtain⟨n,rfl⟩:∃k,n=k+1:=⟨n-1,by omega⟩;have c:l=[]:=by
   cases l with
   | nil=>rfl
   | cons s l=>obtain⟨k,s,e,t,f⟩:=s;rw [aR,wh] at j;omega
  subst c;obtain⟨d,g,i⟩:=h;have a:=g.slice.len;rw [H7.len i] at a;obtain⟨fu,rfl⟩:∃k,fu=k+1:=⟨fu-1,by omega⟩;refine⟨nS,m,?_,Ext.refl p,[],.inl ⟨rfl,rfl⟩,rfl⟩;rw [enter (sf:=f22) rfl rfl];simp [f22,Iq,p9,a]
 | succ r ih=>intro n u q;obtain⟨n,rfl⟩:∃k,n=k+1:=⟨n-1,by omega⟩;exact Yp b (λk o=>(abw fu b k n o (by omega)).2) (ih n (by omega) (by omega)) (by omega)
theorem Yq {l:List ak}(h:ckC l=0):UK l=0:=by unfold ckC at h;by_cases c:UK l=0;exact c;rw [if_neg c] at h;exact h
theorem ajK {m:Mem}(p:m.Ok)(e:m.lim<=m.nx){v:d9}{l:List ak}(h:U2 m (λ_=>True) l v)(hp:Z0 l<=10000)(o:aR l<=26)(n fu:Nat)(x:300<=n)(a:20000<=fu):
  ∃v' m',j6 KW fu (n+1) (.func 8) [v] m=some [⟨.tuple [v',iV (ckC l)],m'⟩]∧Ext m m'∧(if ckC l=0 then U2 m' (λi=>m.nx<=i) (qC l) v' else v'=nS):=by
 obtain⟨n,rfl⟩:∃k,n=k+1:=⟨n-1,by omega⟩;obtain⟨f,d,E1⟩:=XT p e h hp o n fu (by omega) a;by_cases c:ckC l=0;obtain⟨y,r,s⟩:=Qs (Yq c);obtain⟨v',q,j,E2,w⟩:=afl fu a 20 (n+1) (by omega) (by omega) f v l E1.ok (by rw [E1.lim];exact aP e E1.nx) (U2.ext h E1) s (by omega) r;obtain⟨b,g,u⟩:=w;have t:=KV g.slice;refine⟨v',q,?_,E1.trans E2,by rw [if_pos c];exact⟨b,g.mono (J2 _) (λ_ _ _=>rfl) (λi _ h=>aP E1.nx h),H7.mono (J2 _) (λ_ _ _=>rfl) (λi _ h=>aP E1.nx h) _ _ u⟩⟩;rw [c] at d ⊢;rw [enter (sf:=f8) rfl rfl];simp [f8,d,j,t];refine⟨nS,f,?_,E1,by rw [if_neg c]⟩;rw [enter (sf:=f8) rfl rfl];simp [f8,d,c]
end Go.Proofs.YtfddpcckppibjaaGreatDoor.TT
