/- Names and well-formed expressions, walked; conditions: the memory holds what the arguments say. -/
import Derived.Test.YteecnooaopfkeaaGreatDoorPD3
set_option linter.all false
namespace Go.Proofs.YteecnooaopfkeaaGreatDoor.TT
open Go Go.AM
def gG (f:Ex->Int->Int):List Ex->Int->Int->Int
 | [],n,_=>n
 | e::l,n,most=>if n<=most then gG f l (n+f e (most-n)) most else n
def Ia:Ex->List Ex
 | .mk _ _ _ a=>a
def wX:Nat->Ex->Int->Int
 | 0,_,most=>most+1
 | d+1,e,most=>gG (wX d) (Ia e) 1 most
def stN:V4->List UInt8
 | .mk _ s _ _ _=>s
def stE:V4->List Ex
 | .mk _ _ e _ _=>e
def stT:V4->List V4
 | .mk _ _ _ t _=>t
def stF:V4->List V4
 | .mk _ _ _ _ f=>f
def WA (F:List V4->Int->Int)(X:Ex->Int->Int):List V4->Int->Int->Int
 | [],n,_=>n
 | s::l,n,most=>if n<=most then
    WA F X l (gG X (stE s) (n+1+((stN s).length / 100:Nat)+F (stT s) (most-n)+F (stF s) (most-n)) most) most else n
def wS:Nat->List V4->Int->Int
 | 0,_,most=>most+1
 | d+1,l,most=>WA (wS d) (wX d) l 0 most
theorem Bw (f:Ex->Int->Int)(hf:∀e most,0<=most->0<=f e most):∀(l:List Ex) (n most:Int),n<=gG f l n most
 | [],n,most=>Int.le_refl _
 | e::l,n,most=>by rw [gG];split;have h1:=hf e (most-n) (by omega);have h2:=Bw f hf l (n+f e (most-n)) most;omega;omega
theorem Qw (f:Ex->Int->Int)(hf:∀e most,0<=most->f e most<=most+1):∀(l:List Ex) (n most:Int),gG f l n most<=max n (most+1)
 | [],n,most=>by rw [gG];omega
 | e::l,n,most=>by rw [gG];split;have h1:=hf e (most-n) (by omega);have h2:=Qw f hf l (n+f e (most-n)) most;omega;omega
theorem Ib:∀(d:Nat) (e:Ex) (most:Int),0<=most->1<=wX d e most∧wX d e most<=most+1
 | 0,e,most,h=>by rw [wX];omega
 | d+1,e,most,h=>by rw [wX];have h1:=Bw (wX d) (λe m hm=>by have:=Ib d e m hm;omega) (Ia e) 1 most;have h2:=Qw (wX d) (λe m hm=>(Ib d e m hm).2) (Ia e) 1 most;omega
theorem CY (d:Nat)(hd:∀(e:Ex)(most:Int),0<=most->wX d e most<=most->wX d e most=(ng e:Int)∧wU e<=d):
  ∀(l:List Ex) (n most:Int),gG (wX d) l n most<=most->gG (wX d) l n most=n+(U1 l:Int)∧bF l<=d
 | [],n,most,h=>by simp [gG,U1,bF]
 | e::l,n,most,h=>by rw [gG] at h ⊢;split at h;rename_i hn;rw [if_pos hn];have hg:=Bw (wX d) (λe m hm=>by have:=Ib d e m hm;omega) l (n+wX d e (most-n)) most;obtain⟨h1,h2⟩:=hd e (most-n) (by omega) (by omega);obtain⟨h3,h4⟩:=CY d hd l _ most h;rw [h3,h1,U1,bF];exact⟨by omega,by omega⟩;omega
theorem ZH:∀(d:Nat) (e:Ex) (most:Int),0<=most->wX d e most<=most->wX d e most=(ng e:Int)∧wU e<=d
 | 0,e,most,h0,h=>by rw [wX] at h;omega
 | d+1,.mk k n s a,most,h0,h=>by rw [wX] at h ⊢;obtain⟨h1,h2⟩:=CY d (ZH d) a 1 most h;exact⟨by rw [Ia,h1,ng];omega,by rw [wU];omega⟩
mutual
def stW:V4->Nat
 | .mk _ s e t f=>1+s.length / 100+Ey t+Ey f+U1 e
def Ey:List V4->Nat
 | []=>0
 | s::l=>stW s+Ey l
end
mutual
def wF:V4->Nat
 | .mk _ s e t f=>1300+s.length+uY t+uY f+700*e.length
def uY:List V4->Nat
 | []=>0
 | s::l=>wF s+uY l
end
theorem CZ (d:Nat)(l:List Ex)(n most:Int):n<=gG (wX d) l n most:=Bw (wX d) (λe m a=>by have:=Ib d e m a;omega) l n most
theorem KJ (d:Nat):∀(l:List Ex) (n most:Int),0<=n->most<=600->gG (wX d) l n most<=n+700*(l.length:Int)
 | [],n,most,h0,h=>by simp [gG]
 | e::l,n,most,h0,h=>by rw [gG];split;have h1:=Ib d e (most-n) (by omega);have h2:=KJ d l (n+wX d e (most-n)) most (by omega) h;rw [J6];omega;rw [J6];omega
theorem SN (d:Nat)(hF:∀(l:List V4)(most:Int),0<=most->most<=600->0<=wS d l most∧wS d l most<=601+(uY l:Int)):
  ∀(l:List V4) (n most:Int),0<=n->most<=600->n<=WA (wS d) (wX d) l n most∧WA (wS d) (wX d) l n most<=n+(uY l:Int)
 | [],n,most,h0,h=>by simp [WA,uY]
 | .mk k s e t f::l,n,most,h0,h=>by rw [WA,uY,wF];split;rename_i hn;obtain⟨a1,a2⟩:=hF t (most-n) (by omega) (by omega);obtain⟨b1,b2⟩:=hF f (most-n) (by omega) (by omega);have hdiv:s.length / 100<=s.length:=Nat.div_le_self _ _;simp only [stN,stE,stT,stF];have c1:=CZ d e (n+1+(s.length / 100:Nat)+wS d t (most-n)+wS d f (most-n)) most;have c2:=KJ d e (n+1+(s.length / 100:Nat)+wS d t (most-n)+wS d f (most-n)) most (by omega) h;generalize gG (wX d) e (n+1+(s.length / 100:Nat)+wS d t (most-n)+wS d f (most-n)) most=y at c1 c2 ⊢;obtain⟨e1,e2⟩:=SN d hF l y most (by omega) h;exact⟨by omega,by omega⟩;exact⟨by omega,by omega⟩
theorem KL:∀(d:Nat) (l:List V4) (most:Int),0<=most->most<=600->0<=wS d l most∧wS d l most<=601+(uY l:Int)
 | 0,l,most,h0,h=>by rw [wS];omega
 | d+1,l,most,h0,h=>by rw [wS];obtain⟨h1,h2⟩:=SN d (KL d) l 0 most (by omega) h;exact⟨by omega,by omega⟩
theorem Us (d:Nat)(hF:∀(l:List V4)(most:Int),0<=most->most<=600->wS d l most<=most->wS d l most=(Ey l:Int)∧cu l<=d):
  ∀(l:List V4) (n most:Int),0<=n->most<=600->WA (wS d) (wX d) l n most<=most->WA (wS d) (wX d) l n most=n+(Ey l:Int)∧cu l<=d+1
 | [],n,most,h0,hm,h=>by simp [WA,Ey,cu]
 | .mk k s e t f::l,n,most,h0,hm,h=>by rw [WA] at h ⊢;split at h;rename_i hn;rw [if_pos hn];have a1:=KL d t (most-n) (by omega) (by omega);have b1:=KL d f (most-n) (by omega) (by omega);simp only [stN,stE,stT,stF] at h ⊢;have c1:=CZ d e (n+1+(s.length / 100:Nat)+wS d t (most-n)+wS d f (most-n)) most;have e1:=(SN d (KL d) l (gG (wX d) e (n+1+(s.length / 100:Nat)+wS d t (most-n)+wS d f (most-n)) most) most (by omega) hm).1;obtain⟨g1,g2⟩:=Us d hF l _ most (by omega) hm h;obtain⟨t1,t2⟩:=hF t (most-n) (by omega) (by omega) (by omega);obtain⟨f1,f2⟩:=hF f (most-n) (by omega) (by omega) (by omega);obtain⟨x1,x2⟩:=CY d (ZH d) e _ most (by omega:gG (wX d) e (n+1+(s.length / 100:Nat)+wS d t (most-n)+wS d f (most-n)) most<=most);rw [g1,x1,t1,f1,Ey,stW,cu,zO];exact⟨by omega,by omega⟩;omega
theorem ZI:∀(d:Nat) (l:List V4) (most:Int),0<=most->most<=600->wS d l most<=most->wS d l most=(Ey l:Int)∧cu l<=d
 | 0,l,most,h0,hm,h=>by rw [wS] at h;omega
 | d+1,l,most,h0,hm,h=>by rw [wS] at h ⊢;obtain⟨h1,h2⟩:=Us d (ZI d) l 0 most (by omega) hm h;exact⟨by omega,h2⟩
mutual
theorem ak9:∀s:V4,stP s<=stW s
 | .mk _ s e t f=>by rw [stP,stW];have:=Nl t;have:=Nl f;omega
theorem Nl:∀l:List V4,V6 l<=Ey l
 | []=>by rw [V6,Ey];exact aP _
 | s::l=>by rw [V6,Ey];have:=ak9 s;have:=Nl l;omega
end
theorem WB {l:List V4}(h:wS 26 l 600<=600):V6 l<=600∧cu l<=26∧Ey l<=600:=by obtain⟨b,a⟩:=ZI 26 l 600 (by omega) (by omega) h;have:=Nl l;exact⟨by omega,a,by omega⟩
set_option maxRecDepth 100000
set_option maxHeartbeats 8000000
def C67 (n fu d:Nat):Prop:=∀(m:Mem) (row:List o7) (e:Ex) (most:Int) (dp:Nat),m.Ok->m.lim<=m.nx->aS m (λ_=>True) e row->ng e<=2000000->0<=most->most<=600->dp+d=27->
 ∃m',r9 KW fu n (.func 67) [.agg row,iV most,iV (dp:Int)] m=some [⟨iV (wX d e most),m'⟩]∧Ext m m'
theorem acu {n fu d dp:Nat}(O:dp+d=26)(u:C67 n fu d){most:Int}(T:most<=600){m:Mem}{p:Nat}(hm:m.Ok)(hp:p<m.nx)(Q:m.lim<=m.nx){R:List o7}{Z n0:Int}{s0:List UInt8}{v:o7}{rows:List (List o7)}(F:m.get p=some (o9 (r4 Z n0 s0 v)))(a:List Ex)(s:rD m (λ_=>True) 4 v rows)(D:I7 m (λ_=>True) a rows)(V:U1 a<=2000000):
  ∀(j i:Nat),i+j=a.length->∀(x:Int) (c:o7) (M:Mem) (N:Nat),Ext m M->0<=x->x<=601->most-x+2<=(N:Int)->1<=N->
  ∃i' c' M',K8 (λenv m k=>KC (r9 KW fu n) fu none env m k) N (nV9 (.agg R) (iV (dp:Int)) ff (iV most) (iV (i:Int)) (.ptr p 0) (iV x) c (iV 0)) M [] =
   some [⟨.exit 0,(nV9 (.agg R) (iV (dp:Int)) ff (iV most) (iV i') (.ptr p 0) (.int .i64 (gG (wX d) (a.drop i) x most)) c' (iV 0)),M',[],none⟩]∧Ext m M':=by
 have o:=I7.len D;have b:=s.slice.len;rw [o] at b;have S:=bU a;have cv:=s.slice.cells;have ov:=s.slice.H6;intro j;induction j with
 | zero=>
  intro i P x c M N E B C L z;obtain⟨N,rfl⟩:∃k,N=k+1:=⟨N-1,by omega⟩;obtain rfl:i=a.length:=by omega
  have f:=(E.old p hp).trans F;refine⟨(a.length:Int),.bool false,M,?_,E⟩;rw [A8,afu,gG];simp [KC,f,b]
 | succ j ih=>
  intro i P x c M N E B C L z;obtain⟨N,rfl⟩:∃k,N=k+1:=⟨N-1,by omega⟩;have e:i<a.length:=by omega
  have g:i<rows.length:=by omega
  have h:(i:Int)<(a.length:Int):=by omega
  have K:=E.ok;have w:M.lim<=M.nx:=by rw [E.lim];exact gI Q E.nx
  have f:=(E.old p hp).trans F;have A:a.drop i=a[i]::a.drop (i+1):=Z6 e;rw [A,gG];by_cases hx:x<=most;obtain⟨Y,o1,G,a2,a3,H,a5⟩:=(s.slice.ext E).at g;have l:=I7.get D i e g;have W:=l.row;have r:=H 0 4 (by omega) (by omega);rw [K9,L6 (by omega),Y7] at r;have U:=pQ a i e;have q:aS M (λ_=>True) a[i] rows[i]:=NR E l;generalize hX:a[i]=X at *;generalize hR:rows[i]=R1 at *;obtain⟨m2,I,E2⟩:=u M R1 X (most-x) (dp+1) K w q (by omega) (by omega) (by omega) (by omega);have hw:=Ib d X (most-x) (by omega);generalize wX d X (most-x)=y at *;obtain⟨i',c',M',J,q1⟩:=ih (i+1) (by omega) (x+y) tt m2 N (E.trans E2) (by omega) (by omega) (by omega) (by omega);refine⟨i',c',M',?_,q1⟩;rw [if_pos hx];have w1:rz (most-x)=most-x:=Z0 (by omega) (by omega);have w2:rz ((dp:Int)+1)=(dp:Int)+1:=Z0 (by omega) (by omega);have w3:rz (x+y)=x+y:=Z0 (by omega) (by omega);have t:r9 KW fu n (.func 67) [.agg R1,iV (most-x),.int .i64 ((dp:Int)+1)] M=_:=I;rw [A8,← J];simp [KC,f,b,e,h,hx,G,r,t,w1,w2,w3,aF (i:=i) (by omega)];refine⟨(i:Int),.bool false,M,?_,E⟩;rw [if_neg hx,A8];simp [KC,f,b,e,h,hx]
theorem ag8 (fu:Nat)(J:20000<=fu):∀d n:Nat,d<=27->d+1<=n->C67 n fu d:=by
 intro d;induction d with
 | zero=>
  intro n I L m C e most dp q u h F H t z;obtain⟨n,rfl⟩:∃k,n=k+1:=⟨n-1,by omega⟩;obtain rfl:dp=27:=by omega
  obtain⟨j,l,o,a⟩:=e;obtain⟨v,s,rfl,b,D⟩:=h;have B:=b.slice.H6;have w:=b.slice.cells;have N:rz (most+1)=most+1:=Z0 (by omega) (by omega);refine⟨ext m [o9 (r4 j l o v)],?_,H7 q _⟩;rw [enter (sf:=f67) rfl rfl];simp [f67,dF q u,H6,wX,N,B,w]
 | succ d ih=>
  intro n I L m C e most dp q u h F H A z;obtain⟨n,rfl⟩:∃k,n=k+1:=⟨n-1,by omega⟩;obtain⟨j,l,o,a⟩:=e;obtain⟨v,s,rfl,t,D⟩:=h;have B:=t.slice.H6;have w:=t.slice.cells;rw [ng] at F;have E:=H7 q [o9 (r4 j l o v)];have b:=rD.mono (m':=ext m [o9 (r4 j l o v)]) t E.nx (λi K _=>E.old i K) (S':=λ_=>True) λ_ _ h=>h;have y:=Ql E D;obtain⟨P,O,M',g,M⟩:=acu (n:=n) (d:=d) (dp:=dp) (p:=m.nx) (R:=(r4 j l o v)) (most:=most) (by omega) (ih n (by omega) (by omega)) A E.ok (by simp) (by rw [E.lim];exact gI u E.nx) (by rw [F7 q];rfl) a b y (by omega) a.length 0 (by omega) 1 .undef (_) fu (Ext.refl E.ok) (by omega) (by omega) (by omega) (by omega);have G:K8 (λx m k=>KC (r9 KW fu n) fu none x m k) fu (nV9 (.agg (r4 j l o v)) (iV (dp:Int)) ff (iV most) (iV 0) (.ptr m.nx 0) (iV 1) .undef (iV 0)) (ext m [o9 (r4 j l o v)]) []=_:=g;refine⟨M',?_,E.trans M⟩;have r:decide (26<(dp:Int))=false:=decide_eq_false (by omega);have c:¬ (26<(dp:Int)):=by omega
  have f:¬ (26<dp):=by omega
  rw [enter (sf:=f67) rfl rfl,wX,Ia];simp [f67,dF q u,H6,G,B,w,r,c,f]
theorem WC {n fu d dp:Nat}(W:dp+d=26)(z:C67 n fu d){most:Int}(a0:most<=600){m:Mem}(hm:m.Ok)(Y:m.lim<=m.nx){v:o7}{rows:List (List o7)}(I:rD m (λ_=>True) 5 v rows){i:Nat}(hi:i<rows.length)
  {k0:Int} {s0:List UInt8} {K vt vf:o7} (J:rows[i]=(r5 k0 s0 K vt vf)) {t:List (List o7)} (a:List Ex) (g1:rD m (λ_=>True) 4 K t) (H:I7 m (λ_=>True) a t) (a7:U1 a<=2000000) (G:o7):
  ∀(j q:Nat),q+j=a.length->∀(x:Int) (c:o7) (M:Mem) (N:Nat),Ext m M->0<=x->most-x+2<=(N:Int)->1<=N->
  ∃k' c' M',K8 (λenv m k=>Kz (r9 KW fu n) fu none env m k) N (zG (iV (dp:Int)) ff (iV most) (iV (i:Int)) v (iV x) G (iV (q:Int)) c (iV 0)) M [] =
   some [⟨.exit 2,(zG (iV (dp:Int)) ff (iV most) (iV (i:Int)) v (.int .i64 (gG (wX d) (a.drop q) x most)) G k' c' (iV 0)),M',[],none⟩]∧Ext m M':=by
 have o:=I7.len H;have b:=g1.slice.len;rw [o] at b;have Z:=bU a;intro j;induction j with
 | zero=>
  intro q hq x c M N E D V B;obtain⟨N,rfl⟩:∃k,N=k+1:=⟨N-1,by omega⟩;obtain rfl:q=a.length:=by omega
  obtain⟨F,o1,u,L,O,P,r⟩:=(I.slice.ext E).at hi;rw [J] at r;have f:=r 2 (by omega);refine⟨iV (a.length:Int),.bool false,M,?_,E⟩;rw [A8,afu,gG];simp [Kz,u,f,b]
 | succ j ih=>
  intro q hq x c M N E D V B;obtain⟨N,rfl⟩:∃k,N=k+1:=⟨N-1,by omega⟩;have e:q<a.length:=by omega
  have g:q<t.length:=by omega
  have h:(q:Int)<(a.length:Int):=by omega
  have U:=E.ok;have A:M.lim<=M.nx:=by rw [E.lim];exact gI Y E.nx
  obtain⟨F,o1,u,L,O,P,r⟩:=(I.slice.ext E).at hi;rw [J] at r;have f:=r 2 (by omega);have C:a.drop q=a[q]::a.drop (q+1):=Z6 e;rw [C,gG];by_cases hx:x<=most;obtain⟨a8,o2,Q,b2,b3,R,b5⟩:=(g1.slice.ext E).at g;have l:=I7.get H q e g;have s:=R 0 4 (by omega) (by omega);rw [K9,L6 (by have:=l.row;omega),Y7] at s;have a6:=pQ a q e;have p:aS M (λ_=>True) a[q] t[q]:=NR E l;generalize hX:a[q]=X at *;generalize hR1:t[q]=R1 at *;obtain⟨m2,S,E2⟩:=z M R1 X (most-x) (dp+1) U A p (by omega) (by omega) (by omega) (by omega);have hw:=Ib d X (most-x) (by omega);generalize wX d X (most-x)=y at *;obtain⟨k',c',M',T,q1⟩:=ih (q+1) (by omega) (x+y) tt m2 N (E.trans E2) (by omega) (by omega) (by omega);refine⟨k',c',M',?_,q1⟩;rw [if_pos hx];have w1:rz (most-x)=most-x:=Z0 (by omega) (by omega);have w2:rz ((dp:Int)+1)=(dp:Int)+1:=Z0 (by omega) (by omega);have w3:rz (x+y)=x+y:=Z0 (by omega) (by omega);have w:r9 KW fu n (.func 67) [.agg R1,iV (most-x),.int .i64 ((dp:Int)+1)] M=_:=S;rw [A8,← T];simp [Kz,u,f,b,e,h,hx,Q,s,w,w1,w2,w3,aF (i:=q) (by omega)];refine⟨iV (q:Int),.bool false,M,?_,E⟩;rw [if_neg hx,A8];simp [Kz,u,f,b,e,h,hx]
theorem uw (n:Nat)(s:By):dh (n+1) (.str s) (.str s)=true:=by show strEq s s=true;rw [iT];simp
theorem sK {m:Mem}{rs:Nat}{v:o7}{l:List (List o7)}(h:fT m rs v l)(n:Nat):dh (n+1) v v=true:=by rcases h with⟨rfl,_⟩ | ⟨id,o,⟨c,rfl,_⟩ | rfl,_⟩;rfl;show bi (Nat.beq id id) (bi (Nat.beq _ _) (bi (Nat.beq _ _) (Nat.beq _ _) false) false) false=true;simp [dJ];show bi (Nat.beq id id) (bi (Nat.beq _ _) (bi (Nat.beq _ _) (Nat.beq _ _) false) false) false=true;simp [dJ]
theorem ag9 {n:Nat}(h:n<=9000000000):Xi .i64 (n:Int) 100=some (.int .i64 ((n / 100:Nat):Int)):=by show some (o7.int .i64 (rz ((n / 100:Nat):Int)))=_;rw [Z0 (by omega) (by omega)]
def C32 (n fu d:Nat):Prop:=∀(m:Mem) (v:o7) (l:List V4) (most:Int) (dp:Nat),m.Ok->m.lim<=m.nx->aG m (λ_=>True) l v->V6 l<=2000000->uY l<=4000000000->0<=most->most<=600->dp+d=27->
 ∃m',r9 KW fu n (.func 32) [v,iV most,iV (dp:Int)] m=some [⟨iV (wS d l most),m'⟩]∧Ext m m'
theorem Qx:∀(l:List V4) (i:Nat) (h:i<l.length),wF l[i]<=uY l
 | e::l,0,h=>by simp [uY]
 | e::l,i+1,h=>by have:=Qx l i (by simpa using h);simp [uY];omega
theorem acv {n fu d dp:Nat}(a6:20000<=fu)(Q:dp+d=26)(J:C67 n fu d)(A:C32 n fu d){most:Int}(S:most<=600){m:Mem}(hm:m.Ok)(R:m.lim<=m.nx){v:o7}{rows:List (List o7)}(l:List V4)(w:rD m (λ_=>True) 5 v rows)(h2:I4 m (λ_=>True) l rows)(a9:V6 l<=2000000)(a0:uY l<=4000000000):
  ∀(j i:Nat),i+j=l.length->∀(x:Int) (c6 k c8:o7) (M:Mem) (N:Nat),Ext m M->0<=x->most-x+2<=(N:Int)->1<=N->
  ∃i' c6' k' c8' M',K8 (λenv m k=>KA (r9 KW fu n) fu none env m k) N (zG (iV (dp:Int)) ff (iV most) (iV (i:Int)) v (iV x) c6 k c8 (iV 0)) M [] =
   some [⟨.exit 0,(zG (iV (dp:Int)) ff (iV most) (iV i') v (.int .i64 (WA (wS d) (wX d) (l.drop i) x most)) c6' k' c8' (iV 0)),M',[],none⟩]∧Ext m M':=by
 have p:=I4.len h2;have b:=w.slice.len;rw [p] at b;have a8:=iq l;intro j;induction j with
 | zero=>
  intro i hi x c6 k c8 M N E U hN L;obtain⟨N,rfl⟩:∃k,N=k+1:=⟨N-1,by omega⟩;obtain rfl:i=l.length:=by omega
  refine⟨(l.length:Int),.bool false,k,c8,M,?_,E⟩;rw [A8,afu,WA];simp [KA,b]
 | succ j ih=>
  intro i hi x c6 k c8 M N E U hN L;obtain⟨N,rfl⟩:∃k,N=k+1:=⟨N-1,by omega⟩;have c:i<l.length:=by omega
  have a:i<rows.length:=by omega
  have h:(i:Int)<(l.length:Int):=by omega
  have hM:=E.ok;have K:M.lim<=M.nx:=by rw [E.lim];exact gI R E.nx
  have P:l.drop i=l[i]::l.drop (i+1):=Z6 c;rw [P,WA];by_cases hx:x<=most;rw [if_pos hx];have B:=I4.get h2 i c a;have T:=sG l i c;have O:=Qx l i c;generalize hX:l[i]=X at *;obtain⟨k0,F,e,t,f⟩:=X;obtain⟨ve,vt,vf,re,rt,rf,D,e1,e2,t1,t2,Z,f2⟩:=B;rw [stP] at T;rw [wF] at O;have tM:aG M (λ_=>True) t vt:=aG.ext ⟨rt,t1,t2⟩ E;obtain⟨W,g2,E2⟩:=A M vt t (most-x) (dp+1) hM K tM (by omega) (by omega) (by omega) (by omega) (by omega);have E2':=E.trans E2;have fM:aG W (λ_=>True) f vf:=aG.ext ⟨rf,Z,f2⟩ E2';obtain⟨m3,g3,E3⟩:=A W vf f (most-x) (dp+1) E2.ok (by rw [E2'.lim];exact gI R E2'.nx) fM (by omega) (by omega) (by omega) (by omega) (by omega);have E3':=E2'.trans E3;have ht:=KL d t (most-x) (by omega) (by omega);have hf:=KL d f (most-x) (by omega) (by omega);simp only [stN,stE,stT,stF];generalize wS d t (most-x)=y at *;generalize wS d f (most-x)=z at *;have hq:F.length / 100<=F.length:=Nat.div_le_self _ _;have qq:=ag9 (n:=F.length) (by omega);generalize F.length / 100=q0 at *;obtain⟨k',c',M4,g4,E4⟩:=WC (n:=n) (fu:=fu) (d:=d) (dp:=dp) Q J S hm R w a D e e1 e2 (by omega) tt e.length 0 (by omega) (x+1+(q0:Int)+y+z) c8 m3 fu E3' (by omega) (by omega) (by omega);have a7:=CZ d e (x+1+(q0:Int)+y+z) most;rw [K9] at g4;generalize gG (wX d) e (x+1+(q0:Int)+y+z) most=r at *;obtain⟨i',c6',V,c8',M',gg,q1⟩:=ih (i+1) (by omega) r tt k' c' M4 N E4 (by omega) (by omega) (by omega);refine⟨i',c6',V,c8',M',?_,q1⟩;obtain⟨aa,o1,Y,a2,a3,a4,C⟩:=(w.slice.ext E).at a;rw [D] at C;have b3:=C 3 (by omega);obtain⟨ab,o2,q,_,_,_,o⟩:=(w.slice.ext E2').at a;rw [D] at o;have b4:=o 4 (by omega);obtain⟨ac,o3,g,_,_,_,u⟩:=(w.slice.ext E3').at a;rw [D] at u;have b1:=u 1 (by omega);rw [Y] at q g;cases q;cases g;have d1:=C 1 (by omega);have d4:=C 4 (by omega);have d2:=o 1 (by omega)
  have ss:∀s:List UInt8,dh 100 (.str s) (.str s)=true:=λs=>uw 99 s;have sf:dh 100 vf vf=true:=sK Z.slice 99;have w1:rz (most-x)=most-x:=Z0 (by omega) (by omega);have w2:rz ((dp:Int)+1)=(dp:Int)+1:=Z0 (by omega) (by omega);have w3:rz (x+1)=x+1:=Z0 (by omega) (by omega);have w4:rz (x+1+(q0:Int))=x+1+(q0:Int):=Z0 (by omega) (by omega);have w5:rz (x+1+(q0:Int)+y)=x+1+(q0:Int)+y:=Z0 (by omega) (by omega);have w6:rz (x+1+(q0:Int)+y+z)=x+1+(q0:Int)+y+z:=Z0 (by omega) (by omega);have G:r9 KW fu n (.func 32) [vt,iV (most-x),.int .i64 ((dp:Int)+1)] M=_:=g2;have H:r9 KW fu n (.func 32) [vf,iV (most-x),.int .i64 ((dp:Int)+1)] W=_:=g3;have I:K8 (λenv m k=>Kz (r9 KW fu n) fu none env m k) fu (zG (iV (dp:Int)) ff (iV most) (iV (i:Int)) v (.int .i64 (x+1+(q0:Int)+y+z)) tt (iV 0) c8 (iV 0)) m3 []=_:=g4;rw [A8,← gg];simp [KA,b,c,h,hx,Y,b3,b4,b1,G,H,I,w1,w2,w3,w4,w5,w6,d1,d2,d4,ss,sf,qq,aF (i:=i) (by omega)];refine⟨(i:Int),.bool false,k,c8,M,?_,E⟩;rw [if_neg hx,A8];simp [KA,b,c,h,hx]
theorem aga (fu:Nat)(e:20000<=fu):∀d n:Nat,d<=27->d+1<=n->C32 n fu d:=by
 intro d;induction d with
 | zero=>
  intro n z A m v l most dp c f h r q x p j;obtain⟨n,rfl⟩:∃k,n=k+1:=⟨n-1,by omega⟩;obtain rfl:dp=27:=by omega
  have C:rz (most+1)=most+1:=Z0 (by omega) (by omega);refine⟨m,?_,Ext.refl c⟩;rw [enter (sf:=f32) rfl rfl];simp [f32,dF c f,H6,wS,C]
 | succ d ih=>
  intro n z A m v l most dp c f h r q x o j;obtain⟨n,rfl⟩:∃k,n=k+1:=⟨n-1,by omega⟩;obtain⟨s,p,y⟩:=h;obtain⟨D,t,E,u,M',g,B⟩:=acv (n:=n) (d:=d) (dp:=dp) (most:=most) e (by omega) (ag8 fu e d n (by omega) (by omega)) (ih n (by omega) (by omega)) o c f l p y r q l.length 0 (by omega) 0 .undef .undef .undef m fu (Ext.refl c) (by omega) (by omega) (by omega);have w:K8 (λi m k=>KA (r9 KW fu n) fu none i m k) fu (zG (iV (dp:Int)) ff (iV most) (iV 0) v (iV 0) .undef .undef .undef (iV 0)) m []=_:=g;refine⟨M',?_,B⟩;have a:¬ (26<(dp:Int)):=by omega
  have b:¬ (26<dp):=by omega
  rw [enter (sf:=f32) rfl rfl,wS];simp [f32,dF c f,H6,w,a,b]
theorem agb {n fu:Nat}(p:28<=n)(e:20000<=fu){m:Mem}(c:m.Ok)(f:m.lim<=m.nx){v:o7}{l:List V4}(h:aG m (λ_=>True) l v)(hp:V6 l<=2000000)(hb:uY l<=4000000000):
  ∃m',r9 KW fu (n+1) (.func 13) [v] m=some [⟨.bool (decide (l.length<=520)&&decide (wS 26 l 600<=600)),m'⟩]∧Ext m m':=by
 obtain⟨o,i,E1⟩:=aga fu e 26 n (by omega) (by omega) m v l 600 1 c f h hp hb (by omega) (by omega) (by omega);have d:r9 KW fu n (.func 32) [v,iV 600,iV 1] m=_:=i;obtain⟨g,j,k⟩:=h;have a:=j.slice.len;rw [I4.len k] at a;by_cases h5:l.length<=520;refine⟨o,?_,E1⟩;have b:(l.length:Int)<=520:=by omega
 rw [enter (sf:=f13) rfl rfl];simp [f13,dF c f,H6,a,h5,b,d];refine⟨m,?_,Ext.refl c⟩;have b:¬ (l.length:Int)<=520:=by omega
 rw [enter (sf:=f13) rfl rfl];simp [f13,dF c f,H6,a,h5,b]
def uQ (s:By):Bool:=!s.isEmpty&&decide (s.length<=16)&&jq (s.headD 0)&&s.all uN && !HV s
theorem acw (b:UInt8)(hb:b.toNat<128)(n fu:Nat)(m:Mem):r9 KW fu (n+2) (.func 179) [.int .i32 (b.toNat:Nat)] m=some [⟨.bool (!uN b),m⟩]:=by
 have d:=λm=>Hy b n fu m;have e:=λm=>Nb b n fu m;have f:¬ (127:Int)<(b.toNat:Int):=by omega
 have g:¬ 127<b.toNat:=by omega
 have c:vB .u8 ((b.toNat:Nat):Int)=((b.toNat:Nat):Int):=by show ((b.toNat:Nat):Int)%256=_;omega
 rw [enter (sf:=f179) rfl rfl];by_cases hl:jq b=true;simp [f179,f,g,d,e,c,hl,uN];have a:jq b=false:=by simpa using hl
 cases hd:bD b<;>simp [f179,f,g,d,e,c,a,hd,uN]
theorem acy (r:Nat)(c:128<=r)(n fu:Nat)(m:Mem):r9 KW fu (n+2) (.func 179) [.int .i32 (r:Nat)] m=some [⟨.bool true,m⟩]:=by
 have a:(127:Int)<(r:Int):=by omega
 have b:127<r:=by omega
 rw [enter (sf:=f179) rfl rfl];simp [f179,a,b]
theorem agc:sV ff tt=some false:=rfl
theorem agd:sV tt tt=some true:=rfl
theorem ZJ {p:Nat}(s:By){n fu:Nat}:∀(j pos:Nat),pos<=s.length->s.length<=pos+j->∀(c t r d i:o7) (M:Mem) (N:Nat),M.Ok->M.lim<=p->p<M.nx->M.get p=some (.siter s pos)->j+1<=N->
  ((s.drop pos).all uN=true∧∃c' t' r' d' i' M',K8 (λenv m k=>nJ (r9 KW fu (n+2)) fu none env m k) N (zG (.str s) (.ptr p 0) c t (.func (.func 179) [] []) r tt d i (iV 0)) M []=some [⟨.exit 0,(zG (.str s) (.ptr p 0) c' t' (.func (.func 179) [] []) r' tt d' i' (iV 0)),M',[],none⟩]∧Fr (p+1) p M M')∨
  ((s.drop pos).all uN=false∧∃(c' t' r' d':o7) (i':Nat) (M':Mem),K8 (λenv m k=>nJ (r9 KW fu (n+2)) fu none env m k) N (zG (.str s) (.ptr p 0) c t (.func (.func 179) [] []) r tt d i (iV 0)) M []=some [⟨.ret,(zG (.str s) (.ptr p 0) c' t' (.func (.func 179) [] []) r' tt d' (iV (i':Int)) (iV (i':Int))),M',[],none⟩]∧Fr (p+1) p M M'):=by
 intro j;induction j with
 | zero=>
  intro pos C D c t r d i M N g v l y E;obtain⟨N,rfl⟩:∃k,N=k+1:=⟨N-1,by omega⟩;obtain rfl:pos=s.length:=by omega
  have f:=xR y v;refine .inl ⟨by simp,.bool false,.tuple [.bool false],r,d,i,M,?_,Fr.refl g⟩;rw [A8];simp [nJ,f]
 | succ j ih=>
  intro pos C D c t r d i M N g v l y E;obtain⟨N,rfl⟩:∃k,N=k+1:=⟨N-1,by omega⟩;by_cases he:pos=s.length;subst he;have f:=xR y v;refine .inl ⟨by simp,.bool false,.tuple [.bool false],r,d,i,M,?_,Fr.refl g⟩;rw [A8];simp [nJ,f];have h:pos<s.length:=by omega
  have f:=Qo y v h;have q:s.drop pos=s[pos]::s.drop (pos+1):=Z6 h;rcases CV s pos h with⟨d1,d2⟩ | ⟨d1,d2,d3,d4,d5,d6⟩;rw [d2] at f;have b:(M.set p (.siter s (pos+1))).Ok:=Mem.Ok.set g l _;have z:(M.set p (.siter s (pos+1))).get p=some (.siter s (pos+1)):=D6 g _ l rfl;have a:Fr (p+1) p M (M.set p (.siter s (pos+1))):=⟨b,by simp,by simp,λi F A=>w9 g _ l A⟩;have o:=λm=>acw s[pos] d1 n fu m;rw [q,afv];by_cases hb:uN s[pos]=true;rw [hb] at o;have B:=ih (pos+1) (by omega) (by omega) tt (.tuple [.bool true,iV (pos:Nat),.int .i32 ((s[pos]).toNat:Nat)]) (.int .i32 ((s[pos]).toNat:Nat)) ff (iV (pos:Nat)) _ N b (by simpa using v) (by simpa using l) z (by omega);have x:K8 (λenv m k=>nJ (r9 KW fu (n+2)) fu none env m k) (N+1) (zG (.str s) (.ptr p 0) c t (.func (.func 179) [] []) r tt d i (iV 0)) M []=K8 (λenv m k=>nJ (r9 KW fu (n+2)) fu none env m k) N (zG (.str s) (.ptr p 0) tt (.tuple [.bool true,iV (pos:Nat),.int .i32 ((s[pos]).toNat:Nat)]) (.func (.func 179) [] []) (.int .i32 ((s[pos]).toNat:Nat)) tt ff (iV (pos:Nat)) (iV 0)) (M.set p (.siter s (pos+1))) []:=by rw [A8];simp [nJ,f,o,agc,agd]
  rw [x,hb,aeb];rcases B with⟨q1,c',t',r',d',i',M',q2,q3⟩ | ⟨q1,c',t',r',d',i',M',q2,q3⟩;exact .inl ⟨q1,c',t',r',d',i',M',q2,a.trans q3⟩;exact .inr ⟨q1,c',t',r',d',i',M',q2,a.trans q3⟩;have e:uN s[pos]=false:=by simpa using hb
  rw [e] at o;refine .inr ⟨by simp [e],.bool true,.tuple [.bool true,iV (pos:Nat),.int .i32 ((s[pos]).toNat:Nat)],.int .i32 ((s[pos]).toNat:Nat),.bool true,pos,_,?_,a⟩;rw [A8];simp [nJ,f,o,agc,agd];have b:(M.set p (.siter s (pos+(Utf8.decode ⟨s.toArray⟩ pos).2))).Ok:=Mem.Ok.set g l _;have a:Fr (p+1) p M (M.set p (.siter s (pos+(Utf8.decode ⟨s.toArray⟩ pos).2))):=⟨b,by simp,by simp,λi F A=>w9 g _ l A⟩;generalize (Utf8.decode ⟨s.toArray⟩ pos).2=w at *;generalize (Utf8.decode ⟨s.toArray⟩ pos).1=u at *;have o:=λm=>acy u d2 n fu m;have e:uN s[pos]=false:=by unfold uN jq bD;rw [afs,afo,afo];exact⟨.inr (decide_eq_false (by omega)),.inr (decide_eq_false (by omega))⟩
  refine .inr ⟨by rw [q,afv,e];rfl,.bool true,.tuple [.bool true,iV (pos:Nat),.int .i32 (u:Nat)],.int .i32 (u:Nat),.bool true,pos,_,?_,a⟩;rw [A8];simp [nJ,f,o,agc,agd]
theorem acz {m:Mem}(f:m.Ok)(t:m.lim<=m.nx)(s:By)(hs:s.length<=16)(n fu:Nat)(r:20000<=fu):
  ∃(i:Int) (M':Mem),r9 KW fu (n+3) (.func 228) [.str s,(.func (.func 179) [] []),.bool true] m=some [⟨iV i,M'⟩]∧Ext m M'∧(s.all uN=true->i=-1)∧(s.all uN=false->0<=i):=by
 have q:(m.new (.siter s 0)).Ok:=Mem.Ok.new f _;have o:∀j c b d x,x c b=.str s->xA x j c b d=some [⟨.ptr d.nx 0,d.new (.siter s 0)⟩]:=λj c b d x u=>by show mO (x c b) _=_;rw [u];rfl
 have l:∀M',Fr (m.nx+1) m.nx (m.new (.siter s 0)) M'->Ext m M':=λM' F=>by refine⟨F.ok,gI (by simp) F.nx,F.lim,λi v=>?_⟩;rw [F.old i (by omega) (by omega),GI f _ (by omega)]
 have g:=ZJ (p:=m.nx) s (n:=n) (fu:=fu) s.length 0 (by omega) (by omega) .undef .undef .undef .undef .undef (m.new (.siter s 0)) fu q (by simpa using t) (by simp) (AP f _ rfl) (by omega);rw [K9] at g;rcases g with⟨a,c',t',r',d',i',M',g,F⟩ | ⟨a,c',t',r',d',i',M',g,F⟩;have e:K8 (λb m k=>nJ (r9 KW fu (n+2)) fu none b m k) fu (zG (.str s) (.ptr m.nx 0) .undef .undef (.func (.func 179) [] []) .undef tt .undef .undef (iV 0)) (m.new (.siter s 0)) []=_:=g;refine⟨-1,M',?_,l M' F,λ_=>rfl,λh=>by rw [a] at h;cases h⟩;rw [enter (sf:=f228) rfl rfl];simp [f228,o,e];have e:K8 (λb m k=>nJ (r9 KW fu (n+2)) fu none b m k) fu (zG (.str s) (.ptr m.nx 0) .undef .undef (.func (.func 179) [] []) .undef tt .undef .undef (iV 0)) (m.new (.siter s 0)) []=_:=g;refine⟨(i':Int),M',?_,l M' F,(λh=>by rw [a] at h;cases h),λ_=>by omega⟩;rw [enter (sf:=f228) rfl rfl];simp [f228,o,e]
theorem EX {n fu:Nat}(r:20000<=fu){m:Mem}(o:m.Ok)(A:m.lim<=m.nx)(s:By):∃m',r9 KW fu (n+5) (.func 104) [.str s] m=some [⟨.bool (uQ s),m'⟩]∧Ext m m':=by
 match s with
 | []=>refine⟨m,?_,Ext.refl o⟩;rw [enter (sf:=f104) rfl rfl];simp [f104,uQ,C8]
 | b::t=>
  have k:∀(x y:OF) (p:List o7) (f:T o7),x p f=.str (b::t)->y p f=.int .i64 0->vD x y p f=some (.int .u8 (b.toNat:Nat)):=λx y p f B v=>Bg (s:=b::t) (l:=0) B v (by simp);have e:=λm=>Hy b (n+3) fu m;have c:¬ (b::t)=[]:=by simp
  have w:uQ (b::t)=(decide ((b::t).length<=16)&&jq b&&(b::t).all uN && !HV (b::t)):=by simp [uQ]
  rw [w];generalize hS:b::t=S0 at *;by_cases h16:S0.length<=16;have a:¬ (16:Int)<(S0.length:Int):=by omega
  by_cases hb:jq b=true;obtain⟨z,d,E1⟩:=Uq o S0 (n+1) fu (by omega);by_cases hr:HV S0=true;refine⟨z,?_,E1⟩;rw [enter (sf:=f104) rfl rfl];simp [f104,c,h16,a,k,e,hb,d,hr,C8];have j:HV S0=false:=by simpa using hr
  obtain⟨i,M',h,E2,C,D⟩:=acz E1.ok (by rw [E1.lim];exact gI A E1.nx) S0 h16 n fu r;have g:r9 KW fu (n+4) (.func 178) [.str S0,(.func (.func 179) [] [])] z=some [⟨iV i,M'⟩]:=by rw [enter (sf:=f178) rfl rfl];simp [f178,h]
  refine⟨M',?_,E1.trans E2⟩;rw [enter (sf:=f104) rfl rfl];cases ha:S0.all uN;have u:¬ i<0:=by have:=D ha;omega
  simp [f104,c,h16,a,k,e,hb,d,j,g,u,C8];have u:i<0:=by have:=C ha;omega
  simp [f104,c,h16,a,k,e,hb,d,j,g,u,C8];have q:jq b=false:=by simpa using hb
  refine⟨m,?_,Ext.refl o⟩;rw [enter (sf:=f104) rfl rfl];simp [f104,c,h16,a,k,e,q,C8];have a:(16:Int)<(S0.length:Int):=by omega
  refine⟨m,?_,Ext.refl o⟩;rw [enter (sf:=f104) rfl rfl];simp [f104,c,h16,a,k,e,C8]
def cB (k:Int):Int:=if k=3 then -1 else if k=1∨k=2 then 0 else if k=4∨k=5 then 1 else if 6<=k∧k<=18 then 2 else -2
mutual
def je:Ex->Bool
 | .mk k n s a=>decide (cB k≠-2)&&(decide (cB k<0)||decide ((a.length:Int)=cB k)) &&
   (if k=1 then decide (0<=n)&&decide (n<=9007199254740992) else decide (n=0)) &&
   (if k=2∨k=3 then uQ s else decide (s=[]))&&X0 a
def X0:List Ex->Bool
 | []=>true
 | e::l=>je e&&X0 l
end
theorem acA (k:Int)(n fu:Nat)(m:Mem):r9 KW fu (n+1) (.func 181) [iV k] m=some [⟨iV (cB k),m⟩]:=by rw [enter (sf:=f181) rfl rfl];unfold cB;by_cases h1:k=1;subst h1;simp [f181];by_cases h2:k=2;subst h2;simp [f181];by_cases h3:k=3;subst h3;simp [f181];by_cases h4:k=4;subst h4;simp [f181];by_cases h5:k=5;subst h5;simp [f181];by_cases h6:6<=k;by_cases h7:k<=18;simp [f181,h1,h2,h3,h4,h5,h6,h7];simp [f181,h1,h2,h3,h4,h5,h6,h7];simp [f181,h1,h2,h3,h4,h5,h6]
def ZK (n fu d:Nat):Prop:=∀(m:Mem) (row:List o7) (e:Ex),m.Ok->m.lim<=m.nx->aS m (λ_=>True) e row->ng e<=10000->wU e<=d->
 ∃m',r9 KW fu n (.func 108) [.agg row] m=some [⟨.bool (je e),m'⟩]∧Ext m m'
def CG (g:FuncId)(n fu d:Nat):Prop:=∀(m:Mem) (row:List o7) (e:Ex),m.Ok->m.lim<=m.nx->aS m (λ_=>True) e row->ng e<=10000->wU e<=d->
 ∃m',r9 KW fu n (.func g) [.agg row] m=some [⟨.bool (!je e),m'⟩]∧Ext m m'
theorem acB {n fu d:Nat}(b:ZK n fu d):CG 182 (n+1) fu d:=by
 intro m a e k j h o l;have p:=h.row;obtain⟨c,f⟩:=p;have E:=H7 k [o9 a];obtain⟨q,g,E1⟩:=b (ext m [o9 a]) a e E.ok (by rw [E.lim];exact gI j E.nx) (NR E h) o l;refine⟨q,?_,E.trans E1⟩;have i:AO (some (o9 a)) 0 4=some (.agg a):=by rw [eX (by omega) (by omega),K9,L6 (by omega)]
 rw [enter (sf:=f182) rfl rfl];simp [f182,dF k j,H6,c,f,i,g]
theorem xV {n fu d:Nat}(b:ZK n fu d):CG 107 (n+1) fu d:=by
 intro m a e k j h o l;have p:=h.row;obtain⟨c,f⟩:=p;have E:=H7 k [o9 a];obtain⟨q,g,E1⟩:=b (ext m [o9 a]) a e E.ok (by rw [E.lim];exact gI j E.nx) (NR E h) o l;refine⟨q,?_,E.trans E1⟩;have i:AO (some (o9 a)) 0 4=some (.agg a):=by rw [eX (by omega) (by omega),K9,L6 (by omega)]
 rw [enter (sf:=f107) rfl rfl];simp [f107,dF k j,H6,c,f,i,g]
theorem ZL {cl:FuncId}{n fu d:Nat}(G:CG cl (n+1) fu d){m:Mem}(U:m.Ok)(I:m.lim<=m.nx){v:o7}{rows:List (List o7)}(a:List Ex)(B:rD m (λ_=>True) 4 v rows)(z:I7 m (λ_=>True) a rows)(L:U1 a<=10000)(T:bF a<=d):
  ∀(j i:Nat),i+j=a.length->∀(c k b:o7) (M:Mem) (N:Nat),Ext m M->j+1<=N->
  (X0 (a.drop i)=true∧∃c' k' b' M',K8 (λenv m k=>qY (r9 KW fu (n+1)) fu none env m k) N (BL v (iV (i:Int)) (iV (a.length:Int)) c (.func (.func cl) [] []) k b (iV 0)) M []=some [⟨.exit 0,(BL v (iV (a.length:Int)) (iV (a.length:Int)) c' (.func (.func cl) [] []) k' b' (iV 0)),M',[],none⟩]∧Ext m M')∨
  (X0 (a.drop i)=false∧∃(i' c' k' b':o7) (r':Nat) (M':Mem),K8 (λenv m k=>qY (r9 KW fu (n+1)) fu none env m k) N (BL v (iV (i:Int)) (iV (a.length:Int)) c (.func (.func cl) [] []) k b (iV 0)) M []=some [⟨.ret,(BL v i' (iV (a.length:Int)) c' (.func (.func cl) [] []) k' b' (iV (r':Int))),M',[],none⟩]∧Ext m M'):=by
 have u:=I7.len z;have J:=bU a;intro j;induction j with
 | zero=>
  intro i H c k b M N E D;obtain⟨N,rfl⟩:∃k,N=k+1:=⟨N-1,by omega⟩;obtain rfl:i=a.length:=by omega
  refine .inl ⟨by simp [X0],.bool false,k,b,M,?_,E⟩;rw [A8];simp [qY]
 | succ j ih=>
  intro i H c k b M N E D;obtain⟨N,rfl⟩:∃k,N=k+1:=⟨N-1,by omega⟩;have e:i<a.length:=by omega
  have f:i<rows.length:=by omega
  have g:(i:Int)<(a.length:Int):=by omega
  have C:=E.ok;have s:M.lim<=M.nx:=by rw [E.lim];exact gI I E.nx
  have t:a.drop i=a[i]::a.drop (i+1):=Z6 e;rw [t,X0];obtain⟨P,V,y,Q,R,A,S⟩:=(B.slice.ext E).at f;have h:=I7.get z i e f;have O:=h.row;have l:=A 0 4 (by omega) (by omega);rw [K9,L6 (by omega),Y7] at l;have K:=pQ a i e;have F:=Bq a i e;have o:aS M (λ_=>True) a[i] rows[i]:=NR E h;generalize hX:a[i]=X at *;generalize hR:rows[i]=R1 at *;obtain⟨x,r,E2⟩:=G M R1 X C s o (by omega) (by omega);by_cases hf:je X=true;rw [hf] at r;have w:=ih (i+1) (by omega) tt (iV (i:Int)) ff x N (E.trans E2) (by omega);have q:K8 (λenv m k=>qY (r9 KW fu (n+1)) fu none env m k) (N+1) (BL v (iV (i:Int)) (iV (a.length:Int)) c (.func (.func cl) [] []) k b (iV 0)) M []=K8 (λenv m k=>qY (r9 KW fu (n+1)) fu none env m k) N (BL v (.int .i64 ((i+1:Nat):Int)) (iV (a.length:Int)) tt (.func (.func cl) [] []) (iV (i:Int)) ff (iV 0)) x []:=by rw [A8];simp [qY,e,g,y,l,r,aF (i:=i) (by omega)]
  rw [q,hf,aeb];exact w;have p:je X=false:=by simpa using hf
  rw [p] at r;refine .inr ⟨by rw [p];rfl,iV (i:Int),.bool true,iV (i:Int),.bool true,i,x,?_,E.trans E2⟩;rw [A8];simp [qY,e,g,y,l,r]
theorem zL {cl:FuncId}{n fu d:Nat}(u:20000<=fu)(w:CG cl (n+1) fu d){m:Mem}(p:m.Ok)(x:m.lim<=m.nx){v:o7}(a:List Ex)(h:jK m (λ_=>True) a v)(l:U1 a<=10000)(t:bF a<=d):
  ∃m',r9 KW fu (n+3) (.func 106) [v,(.func (.func cl) [] [])] m=some [⟨.bool (!X0 a),m'⟩]∧Ext m m':=by
 obtain⟨s,j,o⟩:=h;have f:=I7.len o;have c:=j.slice.len;rw [f] at c;have y:=bU a;have r:=Jp j.slice;rcases ZL (n:=n) (fu:=fu) w p x a j o l t a.length 0 (by omega) .undef .undef .undef m fu (Ext.refl p) (by omega) with⟨ha,c',k',b',M',g,q⟩ | ⟨ha,i',c',k',b',r',M',g,q⟩;have i:K8 (λe m k=>qY (r9 KW fu (n+1)) fu none e m k) fu (BL v (iV 0) (iV (a.length:Int)) .undef (.func (.func cl) [] []) .undef .undef (iV 0)) m []=_:=g;rw [K9] at ha;have b:r9 KW fu (n+2) (.func 180) [v,(.func (.func cl) [] [])] m=some [⟨iV (-1),M'⟩]:=by rw [enter (sf:=f180) rfl rfl];simp [f180,c,i,r]
 refine⟨M',?_,q⟩;rw [enter (sf:=f106) rfl rfl];simp [f106,b,ha];have i:K8 (λe m k=>qY (r9 KW fu (n+1)) fu none e m k) fu (BL v (iV 0) (iV (a.length:Int)) .undef (.func (.func cl) [] []) .undef .undef (iV 0)) m []=_:=g;rw [K9] at ha;have b:r9 KW fu (n+2) (.func 180) [v,(.func (.func cl) [] [])] m=some [⟨iV (r':Int),M'⟩]:=by rw [enter (sf:=f180) rfl rfl];simp [f180,c,i,r]
 have z:(0:Int)<=(r':Int):=by omega
 refine⟨M',?_,q⟩;rw [enter (sf:=f106) rfl rfl];simp [f106,b,ha,z]
theorem EY {n fu d:Nat}(c:20000<=fu)(b:ZK n fu d){m:Mem}(i:m.Ok)(g:m.lim<=m.nx){v:o7}(a:List Ex)(h:jK m (λ_=>True) a v)(e:U1 a<=10000)(f:bF a<=d):
  ∃m',r9 KW fu (n+3) (.func 106) [v,.func (.func 182) [] []] m=some [⟨.bool (!X0 a),m'⟩]∧Ext m m':=zL c (acB b) i g a h e f
theorem acC (fu:Nat)(t:20000<=fu):∀d n:Nat,4*d+2<=n->ZK n fu d:=by
 intro d;induction d with
 | zero=>intro n hn m Q e l j h W P;obtain⟨k0,n0,u,a⟩:=e;rw [wU] at P;omega
 | succ d ih=>
  intro n hn m Q e l j h W P;obtain⟨n,rfl⟩:∃k,n=k+6:=⟨n-6,by omega⟩;obtain⟨k0,n0,u,a⟩:=e;obtain⟨v,s,rfl,F,V⟩:=h;have r:=F.slice.H6;have H:=Jp F.slice;have p:=F.slice.cells;have C:=I7.len V;have c:=F.slice.len;rw [C] at c;rw [ng] at W;rw [wU] at P;have E:=H7 l [o9 (r4 k0 n0 u v)];have a0:=bU a;have b:=λm=>acA k0 (n+4) fu m;by_cases c1:cB k0=-2;refine⟨_,?_,E⟩;rw [enter (sf:=f108) rfl rfl];simp [f108,dF l j,H6,r,p,b,c1,je];by_cases D:0<=cB k0∧¬ (a.length:Int)=cB k0;obtain⟨D,A⟩:=D;have I:¬ cB k0<0:=by omega
  refine⟨_,?_,E⟩;rw [enter (sf:=f108) rfl rfl];simp [f108,dF l j,H6,r,p,b,c1,D,I,A,c,je];have J:¬ (0<=cB k0∧¬ (a.length:Int)=cB k0):=D;have f:cB k0<0∨(a.length:Int)=cB k0:=by omega
  by_cases A:(k0=1∧(n0<0∨9007199254740992<n0))∨(¬ k0=1∧¬ n0=0);refine⟨_,?_,E⟩;rw [enter (sf:=f108) rfl rfl];rcases A with⟨A,c4⟩ | ⟨A,c4⟩;subst A;have ha:a.length=0:=by simpa [cB] using f
  have O:a=[]:=agF ha;subst O;have w:cB 1=0:=rfl;by_cases c5:n0<0;have K:¬ 0<=n0:=by omega
  simp [f108,dF l j,H6,r,p,b,w,c,je,c5,K];have K:0<=n0:=by omega
  have Y:9007199254740992<n0:=by omega
  have Z:¬ n0<=9007199254740992:=by omega
  simp [f108,dF l j,H6,r,p,b,w,c,je,c5,K,Y,Z];rcases f with h | h;have M:¬ 0<=cB k0:=by omega
  simp [f108,dF l j,H6,r,p,b,c1,h,M,c,je,A,c4];have M:0<=cB k0:=by omega
  have N:¬ cB k0<0:=by omega
  simp [f108,dF l j,H6,r,p,b,c1,← h,c,je,A,c4];have y:=rD.mono (m':=ext m [o9 (r4 k0 n0 u v)]) F E.nx (λi hi _=>E.old i hi) (S':=λ_=>True) λ_ _ h=>h;have z:=Ql E V;clear D J;by_cases hk2:k0=2;subst hk2;have w:cB 2=0:=rfl;have x:n0=0:=by omega
  subst x;obtain⟨G,o,E1⟩:=EX (n:=n) t E.ok (by rw [E.lim];exact gI j E.nx) u;have f:a.length=0:=by simpa [cB] using f
  by_cases hb:uQ u=true
  skip
  obtain⟨M',g,q⟩:=EY (n:=n+2) (fu:=fu) t (ih (n+2) (by omega)) E1.ok (by rw [E1.lim,E.lim];exact gI j (gI E.nx E1.nx)) a (jK.ext ⟨s,y,z⟩ E1) (by omega) (by omega);have L:G.get m.nx=some (o9 (r4 2 0 u v)):=(E1.old _ (by simp)).trans (by rw [F7 l];rfl);refine⟨M',?_,E.trans (E1.trans q)⟩;rw [enter (sf:=f108) rfl rfl];simp [f108,dF l j,H6,r,p,b,w,f,c,je,o,hb,g,H,L];have B:uQ u=false:=by simpa using hb
  refine⟨G,?_,E.trans E1⟩;rw [enter (sf:=f108) rfl rfl];simp [f108,dF l j,H6,r,p,b,w,f,c,je,o,B];by_cases hk3:k0=3;subst hk3;have w:cB 3=-1:=rfl;have x:n0=0:=by omega
  subst x;obtain⟨G,o,E1⟩:=EX (n:=n) t E.ok (by rw [E.lim];exact gI j E.nx) u;clear f;have f:True:=trivial
  by_cases hb:uQ u=true
  skip
  obtain⟨M',g,q⟩:=EY (n:=n+2) (fu:=fu) t (ih (n+2) (by omega)) E1.ok (by rw [E1.lim,E.lim];exact gI j (gI E.nx E1.nx)) a (jK.ext ⟨s,y,z⟩ E1) (by omega) (by omega);have L:G.get m.nx=some (o9 (r4 3 0 u v)):=(E1.old _ (by simp)).trans (by rw [F7 l];rfl);refine⟨M',?_,E.trans (E1.trans q)⟩;rw [enter (sf:=f108) rfl rfl];simp [f108,dF l j,H6,r,p,b,w,f,c,je,o,hb,g,H,L];have B:uQ u=false:=by simpa using hb
  refine⟨G,?_,E.trans E1⟩;rw [enter (sf:=f108) rfl rfl];simp [f108,dF l j,H6,r,p,b,w,f,c,je,o,B];by_cases hk1:k0=1;subst hk1;have w:cB 1=0:=rfl;have f:a.length=0:=by simpa [cB] using f
  have R:0<=n0:=by omega
  have S:¬ n0<0:=by omega
  have T:n0<=9007199254740992:=by omega
  have U:¬ 9007199254740992<n0:=by omega
  by_cases hs:u=[];subst hs;obtain⟨M',g,q⟩:=EY (n:=n+2) (fu:=fu) t (ih (n+2) (by omega)) E.ok (by rw [E.lim];exact gI j E.nx) a ⟨s,y,z⟩ (by omega) (by omega);refine⟨M',?_,E.trans q⟩;rw [enter (sf:=f108) rfl rfl];simp [f108,dF l j,H6,r,p,b,c,je,C8,w,f,R,S,T,U,g,H];refine⟨_,?_,E⟩;rw [enter (sf:=f108) rfl rfl];simp [f108,dF l j,H6,r,p,b,c,je,C8,w,f,R,S,T,U,hs];have x:n0=0:=by omega
  subst x;have X:0<cB k0:=by unfold cB at c1 ⊢;rw [if_neg hk3,if_neg (by omega)] at c1 ⊢;by_cases z1:k0=4∨k0=5;rw [if_pos z1];omega;rw [if_neg z1] at c1 ⊢;by_cases z2:6<=k0∧k0<=18;rw [if_pos z2];omega;rw [if_neg z2] at c1;exact absurd rfl c1
  have h:(a.length:Int)=cB k0:=by omega
  have M:0<=cB k0:=by omega
  have N:¬ cB k0<0:=by omega
  by_cases hs:u=[];subst hs;obtain⟨M',g,q⟩:=EY (n:=n+2) (fu:=fu) t (ih (n+2) (by omega)) E.ok (by rw [E.lim];exact gI j E.nx) a ⟨s,y,z⟩ (by omega) (by omega);refine⟨M',?_,E.trans q⟩;rw [enter (sf:=f108) rfl rfl];simp [f108,dF l j,H6,r,p,b,c,je,C8,c1,← h,hk1,hk2,hk3,g,H];refine⟨_,?_,E⟩;rw [enter (sf:=f108) rfl rfl];simp [f108,dF l j,H6,r,p,b,c,je,C8,c1,← h,hk1,hk2,hk3,hs]
def bL:Ex->Int
 | .mk k _ _ _=>k
mutual
def rF:V4->Bool
 | .mk k s e t f=>decide (1<=k)&&decide (k<=6)&&(if k=1∨k=2 then uQ s else decide (s=[]))&&decide (e.length≠0)&&(decide (e.length<=1)||decide (k=5)) &&
   (decide (t.length=0)||decide (k=3)||decide (k=4))&&(decide (f.length=0)||decide (k=3))&&(decide (k≠6)||decide ((e.map bL).head?=some 3))&&X0 e&&ay t&&ay f
def ay:List V4->Bool
 | []=>true
 | s::l=>rF s&&ay l
end
end Go.Proofs.YteecnooaopfkeaaGreatDoor.TT
