/- Functions of the program and of the specification, walked; conditions: the memory holds what the arguments say. -/
import Derived.Test.YtpmfjipaheolgaaGreatDoorPD4
set_option linter.all false
namespace Go.Proofs.YtpmfjipaheolgaaGreatDoor.TT
open Go Go.AM
set_option maxRecDepth 100000
set_option maxHeartbeats 8000000
open Nat (beq ble blt)
variable {m:cD}{v:j5}
def afL{fs:cN}(g:m.Ok)(h:m.lim<=m.nx)(k:au m v fs)(p:∀r,r∈fs->r.Good)(hb:fs.length<=200)(n l:Nat):
   ∃v' m',l9 KW l (n+1) (.func 167) [v] m=some [⟨v',m'⟩]∧Own m m' v' fs:=by
 rw[en f167];have j:∀z ls env nid,J2 32 0 z [] ls env nid=some (.slice nid 0 0 0,some (.cells 32 0 (T.ofList []))):=λ_ _ _ _=>rfl;have E:=o8 g [.cells 32 0 (T.ofList [])];have o:Own m (ext m [.cells 32 0 (T.ofList [])]) (.slice m.nx 0 0 0) []:=⟨E,.inr (.inl ⟨m.nx,rfl,rfl,aA _,ZZ⟩)⟩;obtain⟨v',m',i,f,_⟩:=Ey h o (k.ext E) p (by simpa using hb);rw[O9]at f;rcases k with⟨rfl,rfl⟩|⟨id,⟨c,rfl⟩|rfl,h2⟩;refine⟨nS,m,?_,Own.nil (cE.refl g)⟩;have e:iR nS nS=some true:=rfl;simp[f167,e];refine⟨v',m',?_,f⟩;have e:∀a b c d,iR (.slice a b c d) nS=some false:=λ_ _ _ _=>rfl;simp[f167,ay g h,e,j,i,f.fs.aL];refine⟨v',m',?_,f⟩;have e:∀a b c d,iR (.sliceU a b c d) nS=some false:=λ_ _ _ _=>rfl;simp[f167,ay g h,e,j,i,f.fs.aL]
def au.nil(h:au m v []):xC v (some (j5.int .i64 0)) (λ_ _ n _=>some (iV n)) (λ_ _ n _=>some (iV n))=some iZ:=h.len
variable {l:cN}
def afM{o:cD}(h:Own o m v l)(n e:Nat)(b:1000<=e):
   ∃m' l',l9 KW e (n+207) (.func 168) [v,(.func (.func 169) [] [])] m=some [⟨.tuple [],m'⟩]∧Own o m' v l'∧Mv 0 l.length l l'∧l'.length=l.length∧rz l' 0 l.length:=by
 rw[en f168];have a:=h.fs.len;have d:=λ(hl:l=[])=>aci m (n+204) e b v (.func (.func 169) [] []);by_cases hl:l=[];refine⟨m,l,?_,h,Mv.refl _ _ _,rfl,by rw[hl];exact λi j _ _ h=>by simp at h⟩;subst hl;have g:=d rfl;simp at a g;simp[f168,a,g];obtain⟨q,⟨rfl,k⟩|⟨id,rfl,k,_,_⟩|⟨id,c,rfl,p⟩⟩:=h;exact cj k hl;exact cj k hl;obtain⟨m',l',g,f,r,s⟩:=afK p n e b (P6.2 hl);refine⟨m',l',?_,⟨q.dO f.ext c,.inr (.inr ⟨id,c,by rw[f.len],f.ar⟩)⟩,r,f.len,s⟩;simp[f168,g]
def Wi{x y:FR}(a:x.Good)(b:y.Good):x.cO y=true↔x.key=y.key:=by have c:-9223372036854775808<=x.f.no∧x.f.no<9223372036854775808:=a.no;have d:-9223372036854775808<=y.f.no∧y.f.no<9223372036854775808:=b.no;simp only[FR.cO,oo,ck,FR.key];omega
def KR{x y:FR}(a:x.Good)(b:y.Good):x.cO y=decide (x.key=y.key):=by rw[acv,Wi a b];simp
structure Dp(l0:cN)(p:Nat)(l:cN)(k:Nat):Prop where
 st:∀i j,i<j->j<k->dM l i<dM l j
 pos:0<k
 top:dM l (k-1)=dM l0 (p-1)
 sub:∀i,i<k->∃j,j<p∧l[i]?=l0[j]?
 cov:∀j,j<p->∃i,i<k∧dM l i=dM l0 j
variable {k p:Nat}
def Dp.skip{a:cN}(h:Dp a p l k)(hp:0<p)(b:dM a p=dM a (p-1)):Dp a (p+1) l k:=
 ⟨h.st,h.pos,by rw[h.top,show p+1-1=p from by omega,b],λi c=>by
  obtain⟨j,f,d⟩:=h.sub i c;exact⟨j,Zs,d⟩,λj e=>by
  by_cases hjp:j<p;exact h.cov j hjp;obtain rfl:j=p:=Zs
  rw[b];exact h.cov _ Zs⟩
def Dp.take{a:cN}(h:Dp a p l k)(hp:0<p)(n:k<l.length)(e:p<a.length)(q:dM a (p-1)<dM a p):Dp a (p+1) (l.set k a[p]) (k+1):=by
 have o:=h.pos;have d:(l.set k a[p])[k]?=a[p]?:=by rw[aq4,cg rfl,cg n];simp[e]
 have c:∀i,i<k->(l.set k a[p])[i]?=l[i]?:=λi g=>by rw[aq4,aE Zs]
 have f:∀i,i<k->dM l i<=dM l (k-1):=λi g=>by by_cases h':i=k-1;rw[h'];exact axQ _;exact axE (h.st i (k-1) Zs Zs)
 refine⟨λi j b m=>?_,Zs,?_,λi g=>?_,λj m=>?_⟩;by_cases hjk:j=k;subst hjk;rw[jP (c i b),jP d];have:=f i b;rw[h.top]at this;omega;rw[jP (c i Zs),jP (c j Zs)];exact h.st i j b Zs;rw[show k+1-1=k from by omega,show p+1-1=p from by omega];exact jP d;by_cases hik:i=k;subst hik;exact⟨p,Zs,d⟩;obtain⟨j,u,t⟩:=h.sub i Zs;exact⟨j,Zs,(c i Zs).trans t⟩;by_cases hjp:j=p;subst hjp;exact⟨k,Zs,jP d⟩;obtain⟨i,r,s⟩:=h.cov j Zs;exact⟨i,Zs,(jP (c i r)).trans s⟩
def Wj(n0 O:Nat)(a0:1000<=O)(id n nn o:Nat)(hn:n<=200)(T:nn+o=n)(b:cN)(a1:b.length=n)(j:rz b 0 n)(c1 y3 y5 K:j5):
   ∀(s t:Nat),t+s=nn->0<t->∀(N:Nat),s<N->∀(M:cD) (l:cN) (k:Nat),Ar M id l->l.length=n->k<o+t->(∀x,o+t<=x+1->l[x]?=b[x]?)->Dp b (o+t) l k->∀(y8 y9:j5),
    ∃k' z9 M' l',I9 (λenv m k=>Cx (l9 KW O (n0+4)) O none env m k) N (xU (.sliceU id 0 n 32) c1 (iN k) y3 (.func (.func 172) [] []) y5 (iN t) (.sliceU id (o*32) nn 32) y8 y9 K) M []=some [⟨.exit 2,(xU (.sliceU id 0 n 32) c1 (iN k') y3 (.func (.func 172) [] []) y5 (iN nn) (.sliceU id (o*32) nn 32) fV z9 K),M',[],none⟩]∧oh id M l M' l'∧k'<n∧Dp b n l' k':=by
 intro s;induction s with
 |zero=>
  intro t ht h0 N hN M l k h S hk v z y8 y9;obtain⟨N,rfl⟩:=sx N;obtain rfl:t=nn:=Zs
  refine⟨k,y9,M,l,?_,oh.refl h,Zs,by rw[← T,as2];exact z⟩;rw[o7];simp[Cx]
 |succ s ih=>
  intro t ht h0 N hN M l k h S hk v z y8 y9;obtain⟨N,rfl⟩:=sx N;obtain⟨p,U⟩:∃p,p=o+t:=⟨_,rfl⟩;obtain⟨u,hu⟩:∃u,u+1=t:=⟨t-1,Zs⟩;obtain⟨q,hq⟩:∃q,q+1=p:=⟨p-1,Zs⟩;rw[← U]at z hk v;have a:p<l.length:=Zs
  have i:q<l.length:=Zs
  have C:p<b.length:=Zs
  have I:q<b.length:=Zs
  have L:l[p]=b[p]:=by have:=v p Zs;simpa[a,C]using this
  have w:l[q]=b[q]:=by have:=v q Zs;simpa[i,I]using this
  obtain⟨M1,g1,E1⟩:=XG h.ok h.lm n0 O (h.get a) (h.get i);have R:=h.ext E1;have Y:=h.fa.ld a;have Z:=h.fa.ld i;have r3:=R.fa.ld a;have z1:=(h.get a).rf;have z2:=(h.get i).rf;rw[show p*32=o*32+t*32 from by omega]at Y r3;rw[show q*32=o*32+u*32 from by omega]at Z;have d:=KR (h.get a) (h.get i);rw[L,w]at d;rw[← lD C,← lD I]at d;have i1:∀{β:Type} (f:Nat->Option β),idx nn (iV (t:Int)) f=f t:=λf=>Z0 _ _ f Zs;have i2:∀{β:Type} (f:Nat->Option β),idx nn (iV (u:Int)) f=f u:=λf=>Z0 _ _ f Zs;have e2:=qR hu Zs;obtain⟨P,D⟩:∃P,P=t+1:=⟨_,rfl⟩;have e3:=Z5 D Zs;have J:t<nn:=Zs
  have A:=h.get a;cases hb:decide (dM b p=dM b q)with
  |true=>
   rw[hb]at d;obtain⟨k',z9,M',l',g,E,B,e⟩:=ih P Zs Zs N Zs M1 l k R S Zs (λx W=>v x Zs) (by
    rw[D,← aie,← U];exact z.skip Zs (by rw[show p-1=q from by omega];simpa using hb)) tV fV
   refine⟨k',z9,M',l',?_,(oh.of h E1).trans E,B,e⟩;rw[L,w]at *;generalize b[p]=x at *;generalize b[q]=y at *;clear ih z e v E hb j;rw[o7,← g];simp[Cx,J,e2,e3,i1,i2,Y,Z,z1,z2,g1,d]
  |false=>
   rw[hb]at d;have H:k<l.length:=Zs
   obtain⟨M2,s1,Q,x2⟩:=R.store H A;have F:oh id M l M2 (l.set k l[p]):=(oh.of h E1).trans ⟨x2,Q,ZZ,λr V=>by
    rcases aqw V with V|rfl;exact V;exact ql a⟩
   obtain⟨X,G⟩:∃X,X=k+1:=⟨_,rfl⟩;have e4:=Z5 G Zs;obtain⟨k',z9,M',l',g,E,B,e⟩:=ih P Zs Zs N Zs M2 (l.set k l[p]) X Q (by simpa using S) Zs (λx W=>by
    rw[aq4,aE Zs];exact v x Zs) (by
    rw[D,← aie,← U,G,L];have c:=j q p Zs Zs Zs;have c':¬ dM b p=dM b q:=(by simpa using hb);exact z.take Zs H C (by rw[show p-1=q from by omega];omega)) tV tV
   refine⟨k',z9,M',l',?_,F.trans E,B,e⟩;have i3:∀{β:Type} (f:Nat->Option β),idx n (iV (k:Int)) f=f k:=λf=>Z0 _ _ f Zs;rw[L,w]at *;generalize b[p]=x at *;generalize b[q]=y at *;clear ih z e v E hb j F Q x2;rw[o7,← g];simp[Cx,J,e2,e3,e4,i1,i2,i3,Y,Z,r3,z1,z2,g1,d,s1,D6.len]
variable {n:Nat}
def KS{id:Nat}(b:k<n)(x a:OF)(ls:cM)(env:T j5)(nid:Nat)(d:x ls env=.sliceU id 0 n 32)(c:a ls env=iV (k:Int)):TU 32 x (some a) none ls env nid=some (.sliceU id (k*32) (n-k) 32,none):=by show jC (a ls env) (λl=>K6 nid 32 (x ls env) l none)=_;rw[c,d,kQ,je];show bi (ble k n) (bi (ble n n) (bi (beq 32 32) (bi (blt k n) (some (j5.sliceU id (Nat.add 0 (Nat.mul k 32)) (Nat.sub n k) 32,(none:Option Y9))) _) none) none) none=_;rw[show ble k n=true from l7 (aki b),show ble n n=true from l7 (aA _),show blt k n=true from O8.mpr b,show Nat.add 0 (Nat.mul k 32)=k*32 from P7 _];rfl
def acj{id:Nat}(c:k<=n)(hn:0<n)(x a:OF)(ls:cM)(env:T j5)(nid:Nat)(d:x ls env=.sliceU id 0 n 32)(b:a ls env=iV (k:Int)):TU 32 x none (some a) ls env nid=some (.sliceU id 0 k 32,none):=by show jC (a ls env) (λh=>K6 nid 32 (x ls env) 0 (some h))=_;rw[b,d,kQ,je];show bi (ble 0 k) (bi (ble k n) (bi (beq 32 32) (bi (blt 0 n) (some (j5.sliceU id (Nat.add 0 (Nat.mul 0 32)) (Nat.sub k 0) 32,(none:Option Y9))) _) none) none) none=_;rw[show ble 0 k=true from l7 (ahe _),show ble k n=true from l7 c,show blt 0 n=true from O8.mpr hn];rfl
def NQ(z:cM)(x:OF)(cf:G6)(ls:cM)(env:T j5)(m:cD):BJ z x cf ls env m=xC (x ls env) (some [⟨.tuple [],m⟩]) (λid off len _=>gY m id off (U4 z len) λm'=>some [⟨.tuple [],m'⟩])
   (λid off len _=>gY m id off (U4 z len) λm'=>some [⟨.tuple [],m'⟩]):=id rfl
structure Dd(l l':cN):Prop where
 st:∀i j,i<j->j<l'.length->dM l' i<dM l' j
 sub:∀r,r∈l'->r∈l
 cov:∀r,r∈l->∃s,s∈l'∧s.key=r.key
def Dd.of{d:cN}(u:l.length=d.length)(t:k<=l.length)(h:Dp d d.length l k):Dd d (l.take k):=by
 have e:∀i,i<k->(l.take k)[i]?=l[i]?:=λi a=>by rw[ahO,cg a]
 refine⟨λi j g f=>?_,λr m=>?_,λr m=>?_⟩;have c:j<k:=by simp at f;omega
 rw[jP (e i Zs),jP (e j c)];exact h.st i j g c;obtain⟨i,a,rfl⟩:=agB m;have b:i<k:=by simp at a;omega
 obtain⟨j,q,s⟩:=h.sub i b;have n:(l.take k)[i]?=d[j]?:=(e i b).trans s;rw[cB a,cB q]at n;rw[rW n];exact ql _;obtain⟨j,f,rfl⟩:=agB m;obtain⟨i,o,p⟩:=h.cov j f;have a:i<(l.take k).length:=ZD
 refine⟨(l.take k)[i],ql a,?_⟩;rw[← lD a,jP (e i o),p,lD f]
def Dd.self(h:∀i j,i<j->j<l.length->dM l i<dM l j):Dd l l:=⟨h,λ_ h=>h,λr a=>⟨r,a,rfl⟩⟩
def Ar.clear{id:Nat}(h:Ar m id l)(d:k<=l.length)(z:cM)(i:z.length=32)(e:H8 z=true):
   ∃m',(∀{β:Type} (f:cD->Option β),gY m id (k*32) (U4 z (l.length-k)) f=f m')∧Ar m' id (l.take k)∧bC id m m':=by
 obtain⟨m',c,b,a⟩:=xQ.clear (vs:=U4 z (l.length-k)) h.fa h.ok h.lt h.lim (k:=k) (by simpa using d) (by
  rw[GV,i,ahP,← ajx];exact U0 _ Zs) (GX e _)
 rw[← avx]at b;exact⟨m',c,⟨a.ok,b,aP h.lt a.nx,by rw[a.lim];exact h.lim,λr g=>h.good r (adn g),by simp;have:=h.big;omega⟩,a⟩
def Wl(R v:Nat)(H:1000<=v)(id n:Nat)(hn:n<=200)(l:cN)(D:l.length=n)(d:rz l 0 n)(E:j5):
   ∀(s k:Nat),k+s=n->0<k->∀(N:Nat),s<N->∀(M:cD),Ar M id l->(∀i j,i<j->j<k->dM l i<dM l j)->∀(y3 y5:j5),
    ∃x k' z3 z5 z6 z7 z8 z9 v10 M',I9 (λenv m k=>FK (l9 KW v (R+4)) v none env m k) N (xU (.sliceU id 0 n 32) E (iN k) y3 (.func (.func 172) [] []) y5 uV uV uV uV nS) M []=some [⟨x,(xU (.sliceU id 0 n 32) E (iN k') z3 (.func (.func 172) [] []) z5 z6 z7 z8 z9 v10),M',[],none⟩]∧
     ((x=.exit 0∧cE M M'∧(∀i j,i<j->j<n->dM l i<dM l j))∨(x=.ret∧∃l',v10=.sliceU id 0 l'.length 32∧bC id M M'∧Ar M' id l'∧Dd l l')):=by
 intro s;induction s with
 |zero=>
  intro k hk V N hN M h b y3 y5;obtain⟨N,rfl⟩:=sx N;obtain rfl:k=n:=Zs
  refine⟨.exit 0,k,fV,y5,uV,uV,uV,uV,nS,M,?_,.inl ⟨rfl,cE.refl h.ok,b⟩⟩;rw[o7];simp[FK]
 |succ s ih=>
  intro k hk V N hN M h b y3 y5;obtain⟨N,rfl⟩:=sx N;obtain⟨q,hq⟩:∃q,q+1=k:=⟨k-1,Zs⟩;have e:k<l.length:=Zs
  have p:q<l.length:=Zs
  obtain⟨M1,U,E1⟩:=XG h.ok h.lm R v (h.get e) (h.get p);have W:=h.ext E1;have r1:=h.fa.ld e;have r2:=h.fa.ld p;have z1:=(h.get e).rf;have z2:=(h.get p).rf;have o:=KR (h.get e) (h.get p);rw[← lD e,← lD p]at o;have Y:∀{β:Type} (f:Nat->Option β),idx n (iV (k:Int)) f=f k:=λf=>Z0 _ _ f Zs;have Z:∀{β:Type} (f:Nat->Option β),idx n (iV (q:Int)) f=f q:=λf=>Z0 _ _ f Zs;have T:=qR hq Zs;obtain⟨P,J⟩:∃P,P=k+1:=⟨_,rfl⟩;have e3:=Z5 J Zs;have t:k<n:=Zs
  cases hb:decide (dM l k=dM l q)with
  |false=>
   rw[hb]at o;have B:dM l q<dM l k:=by have c:=d q k Zs Zs Zs;have c':¬ dM l k=dM l q:=(by simpa using hb);omega
   obtain⟨x,k',z3,z5,z6,z7,z8,z9,v10,M',g,r⟩:=ih P Zs Zs N Zs M1 W (λi j I hj=>by
    by_cases hjk:j=k;subst hjk;by_cases hiq:i=q;rw[hiq];exact B;exact Int.lt_trans (b i q Zs Zs) B;exact b i j I Zs) tV fV
   refine⟨x,k',z3,z5,z6,z7,z8,z9,v10,M',?_,?_⟩;generalize l[k]=x at *;generalize l[q]=y at *;clear ih r b d hb;rw[o7,← g];simp[FK,t,T,e3,Y,Z,r1,r2,z1,z2,U,o];rcases r with⟨h1,h2,h3⟩|⟨h1,l',h2,h3,h4⟩;exact .inl ⟨h1,E1.trans h2,h3⟩;exact .inr ⟨h1,l',h2,E1.toB.trans h3,h4⟩
  |true=>
   rw[hb]at o;have G:dM l k=dM l q:=by simpa using hb
   obtain⟨u,O⟩:∃u,u+k=n:=⟨n-k,Zs⟩;obtain⟨k',z9,M2,Q,F,C,A,X⟩:=Wj R v H id n u k hn O l D d E tV tV nS (u-1) 1 Zs Zs v Zs M1 l k W D Zs (λ_ _=>rfl)
    ⟨b,V,by rw[show k-1=q from by omega,show k+1-1=k from by omega,G],λi hi=>⟨i,Zs,rfl⟩,λj hj=>by
     by_cases hjk:j<k;exact⟨j,hjk,rfl⟩;obtain rfl:j=k:=Zs;exact⟨q,Zs,G.symm⟩⟩ uV uV
   have K:=C.len.trans D;have w:∀(z:cM),z.length=32->H8 z=true->∃m',(∀{β:Type} (f:cD->Option β),gY M2 id (k'*32) (U4 z (n-k')) f=f m')∧Ar m' id (Q.take k')∧bC id M2 m':=λz hz ho=>by
    have:=C.ar.clear (k:=k') Zs z hz ho
    rwa [K]at this
   have sF:=λ(x a:OF) ls env nid r ha=>KS (id:=id) t x a ls env nid r ha;have S:=λ(x a:OF) ls env nid r ha=>KS (id:=id) A x a ls env nid r ha;have sT:=λ(x a:OF) ls env nid r ha=>acj (id:=id) (aki A) (by omega:0<n) x a ls env nid r ha;obtain⟨M3,w1,w2,w3⟩:=w [iZ,iZ,iZ,iZ,iZ,iZ,iZ,iZ,iZ,iZ,iZ,iZ,iZ,iZ,iZ,iZ,iZ,iZ,iZ,iZ,iZ,iZ,nS,nS,iZ,iZ,iZ,iZ,iZ,nS,iZ,iZ] rfl rfl;have L:(Q.take k').length=k':=ZD
   refine⟨.ret,k',tV,tV,(iN u),(.sliceU id (k*32) u 32),fV,z9,.sliceU id 0 k' 32,M3,?_,.inr ⟨rfl,Q.take k',by rw[L],(E1.toB.trans C.ext).trans w3,w2,Dd.of Zs Zs (by rw[D];exact X)⟩⟩;rw[show n-k=u from by omega]at sF;dsimp only[iN]at F;rw[show((1:Nat):Int)=1 from rfl]at F;generalize l[k]=x at *;generalize l[q]=y at *;clear ih b d hb X C w w2 w3 G;rw[o7];simp[FK,t,T,Y,Z,r1,r2,z1,z2,U,o,sF,S,sT,F,NQ,w1]
def afN{p:cD}(h:Own p m v l)(hs:rz l 0 l.length)(q d:Nat)(k:1000<=d):
   ∃v' m' l',l9 KW d (q+5) (.func 171) [v,(.func (.func 172) [] [])] m=some [⟨v',m'⟩]∧Own p m' v' l'∧Dd l l':=by
 rw[en f171];have c:=h.fs.len;by_cases h2:l.length<2;refine⟨v,m,l,?_,h,Dd.self λi j n r=>Zs⟩;have a:(l.length:Int)<2:=Zs
 simp[f171,c,a];have a:¬ (l.length:Int)<2:=Zs
 obtain⟨o,⟨rfl,f⟩|⟨id,rfl,f,_,_⟩|⟨id,b,rfl,e⟩⟩:=h;subst f;simp at h2;subst f;simp at h2;obtain⟨x,u,w,y,z,A,B,C,t,M',g,s⟩:=Wl q d k id l.length e.big l rfl hs fV (l.length-1) 1 Zs Zs d (by have:=e.big;omega) m e (λi j n r=>Zs) uV uV;dsimp only[iN]at g;rw[show((1:Nat):Int)=1 from rfl]at g;rcases s with⟨rfl,hE,hst⟩|⟨rfl,l',rfl,hE,hA,hd⟩;refine⟨.sliceU id 0 l.length 32,M',l,?_,⟨o.trans hE,.inr (.inr ⟨id,b,rfl,e.ext hE⟩)⟩,Dd.self hst⟩;simp[f171,a,g];refine⟨.sliceU id 0 l'.length 32,M',l',?_,⟨o.dO hE b,.inr (.inr ⟨id,b,rfl,hA⟩)⟩,hd⟩;simp[f171,a,g]
def Dd.mv{l1 l2:cN}(o:l1.length=l.length)(e:Mv 0 l.length l l1)(h:Dd l1 l2):Dd l l2:=by
 have d:∀r,r∈l1->r∈l:=λr a=>by obtain⟨i,b,rfl⟩:=agB a;obtain⟨j,_,n,f⟩:=e.inn i (ahe _) Zs;rw[cB b,cB n]at f;rw[rW f];exact ql _
 have c:∀r,r∈l->r∈l1:=λr a=>by
  obtain⟨i,b,rfl⟩:=agB a;obtain⟨k,_,p,g⟩:=e.bak i (ahe _) b;have m:k<l1.length:=Zs
  rw[cB b,cB m]at g;rw[← rW g];exact ql _
 exact⟨h.st,λr a=>d r (h.sub r a),λr a=>h.cov r (c r a)⟩
def aiO{d:cN}(q:m.Ok)(p:m.lim<=m.nx)(s:au m v d)(o:∀r,r∈d->r.Good)(hb:d.length<=200)(e a:Nat)(b:1000<=a):
   ∃v' m' l',l9 KW a (e+208) (.func 94) [v] m=some [⟨v',m'⟩]∧Own m m' v' l'∧Dd d l':=by
 obtain⟨B,z,j,h⟩:=afL q p s o hb (e+206) a;obtain⟨A,y,k,w,f,c,g⟩:=afM h e a b;rw[← c]at g;obtain⟨x,u,t,l,i,n⟩:=afN w g (e+202) a b;refine⟨x,u,t,?_,i,n.mv c f⟩;rw[en f94];simp[f94,j,k,l,h.fs.aL,i.fs.aL]
variable {M:cD}{c:cM}
def iy{id off:Nat}(b:M.Ok)(a:id<M.nx)(h:M.lim<=id)(g:M.get id=some (j6 c))(d:off<c.length)(e:D8 v=true):
   ∃N,(∀{β:Type} (k:cD->Option β),storeAt M id off [v] k=k N)∧N.get id=some (j6 (c.set off v))∧bC id M N:=by
 refine⟨M.set id (j6 (c.set off v)),λk=>?_,by rw[cD.R9 b a,cg rfl],cD.Ok.set b a _,ZZ,rfl,λj l i=>by rw[cD.R9 b a,aE i]⟩;have f:H8 [v]=true:=by show bi (D8 v) true false=true;rw[e];rfl
 rw[bI h f,g,bR ZD d,I6];congr 2;rw[awT,cg d];rfl
def fU{id:Nat}{vs:cM}(b:M.Ok)(a:id<M.nx)(f:M.lim<=id)(e:M.get id=some (j6 c))(h:c.length=vs.length)(h0:0<vs.length)(d:H8 vs=true):
   ∃N,(∀{β:Type} (k:cD->Option β),storeAt M id 0 vs k=k N)∧N.get id=some (j6 vs)∧bC id M N:=by
 refine⟨M.set id (j6 vs),λk=>?_,by rw[cD.R9 b a,cg rfl],cD.Ok.set b a _,ZZ,rfl,λj i g=>by rw[cD.R9 b a,aE g]⟩;rw[bI f d,e,bR Zs Zs,I6];congr 2;rw[at7,su Zs];simp
structure Cp(r r':FR):Prop where
 a:r'.a=r.a
 b:r'.b=r.b
 l:r'.l=r.l
 f:∃va vb vl,r'.f={r.f with A:=va,B:=vb,L:=vl}
def uP{N:cD}{id:Nat}(a:c.length=32)(b:M.get id=some (j6 c))(X:bC id M N):Kp M N:=⟨X.nx,λi d f=>by
 by_cases h:i=id;subst h;have e:j6 c=.cells 32 1 (.nd .e c .e):=by show Y9.cells (len' c) 1 (.nd .e c .e)=_;rw[K7,a]
 exact cj (by rw[b,e]) (f 1 (.nd .e c .e));exact X.old i d h⟩
def Wm{r:FR}(t:m.Ok)(s:m.lim<=m.nx)(g:J9 m r)(hs:r.short)(w k:Nat)(a0:1000<=k):
   ∃r' m',l9 KW k (w+2) (.func 61) [.agg r.f.cells] m=some [⟨.agg r'.f.cells,m'⟩]∧cE m m'∧J9 m' r'∧Cp r r':=by
 obtain⟨y,C,D⟩:=hs;obtain⟨z,J⟩:∃z:cM,z=[iZ,iZ,iZ,iZ,iZ,iZ,iZ,iZ,iZ,iZ,iZ,iZ,iZ,iZ,iZ,iZ,iZ,iZ,iZ,iZ,iZ,iZ,nS,nS,iZ,iZ,iZ,iZ,iZ,nS,iZ,iZ]:=⟨_,rfl⟩;have o:z.length=32:=by rw[J];rfl
 have E0:=o8 t [j6 r.f.cells,j6 z];have lim:∀{M:cD},cE m M->M.lim<=M.nx:=λE=>by rw[E.lim];have:=E.nx;omega
 obtain⟨h,M1,X,E1,c⟩:=Il E0.ok (lim E0) (g.a.ext E0) Zs w k;have E01:=E0.trans E1;have K:M1.get m.nx=some (j6 r.f.cells):=by rw[E1.old _ ZZ,l8 t];rfl
 have w1:M1.get (m.nx+1)=some (j6 z):=by rw[E1.old _ ZZ,r9 t];rfl
 obtain⟨i,M2,Y,E2,d⟩:=Il E01.ok (lim E01) (g.b.ext E01) Zs w k;have E02:=E01.trans E2;have n1:m.nx+2<=M1.nx:=by have:=E1.nx;simpa using this
 have n2:m.nx+2<=M2.nx:=dn n1 E2.nx;have N:M2.get m.nx=some (j6 r.f.cells):=by rw[E2.old _ Zs];exact K
 have w2:M2.get (m.nx+1)=some (j6 z):=by rw[E2.old _ Zs];exact w1
 have n:=c.ext E2;obtain⟨N1,s1,O,X1⟩:=iy (off:=22) E02.ok Zs (by rw[E02.lim];exact s) N ZZ (v:=h) c.D8;have F1:=E02.dO X1 (aA _);have F:=uP (D6.len _) N X1;have H:(r.f.cells.set 22 h).length=32:=ZZ
 obtain⟨N2,s2,P,X2⟩:=iy (off:=23) F1.ok (aP Zs X1.nx) (by rw[F1.lim];exact s) O (by rw[H];omega) (v:=i) d.D8;have F2:=F1.dO X2 (aA _);have G:=uP H O X2;have I:((r.f.cells.set 22 h).set 23 i).length=32:=ZZ
 have n3:m.nx+2<=N2.nx:=dn n2 (dn X1.nx X2.nx);have w3:N2.get (m.nx+1)=some (j6 z):=by rw[X2.old _ (by have:=X1.nx;omega) Zs,X1.old _ Zs Zs];exact w2
 obtain⟨x,M4,Z,E4,e⟩:=Il F2.ok (lim F2) (g.l.ext F2) Zs w k;have F4:=F2.trans E4;have Q:M4.get m.nx=some (j6 ((r.f.cells.set 22 h).set 23 i)):=by rw[E4.old _ Zs];exact P
 have w4:M4.get (m.nx+1)=some (j6 z):=by rw[E4.old _ Zs];exact w3
 have n4:m.nx+2<=M4.nx:=dn n3 E4.nx;obtain⟨N3,s3,R,X3⟩:=iy (off:=29) F4.ok Zs (by rw[F4.lim];exact s) Q (by rw[I];omega) (v:=x) e.D8;have F5:=F4.dO X3 (aA _);have u:=uP I Q X3;let r':FR:=⟨{r.f with A:=h,B:=i,L:=x},r.a,r.b,r.l⟩
 have W:((r.f.cells.set 22 h).set 23 i).set 29 x=r'.f.cells:=rfl;rw[W]at R;have S:N3.get (m.nx+1)=some (j6 z):=by rw[X3.old _ Zs Zs];exact w4
 have j:J9 N3 r':=⟨pJ u ((pJ G (pJ F n)).ext E4),pJ u ((pJ G (pJ F d)).ext E4),pJ u e,g.ga,g.gb,g.nb⟩;obtain⟨m',s4,q7,X4⟩:=fU (vs:=r'.f.cells) F5.ok (aP Zs X3.nx) (by rw[F5.lim];omega) S (by rw[o];simp) ZZ j.one;have F6:=F5.dO X4 Zs;refine⟨r',m',?_,F6,j.keep (uP o S X4),rfl,rfl,rfl,h,i,x,rfl⟩;rw[en f61];have pa:=λ{β:Type} (p:j5->β) q=>c.aL p q;have pb:=λ{β:Type} (p:j5->β) q=>d.aL p q;have pl:=λ{β:Type} (p:j5->β) q=>e.aL p q;have T:=c.cells;have U:=d.cells;have V:=e.cells;have za:bg 100 h h=true:=gG c 99;have zb:bg 100 i i=true:=gG d 99;have zc:bg 100 r.f.A r.f.A=true:=gG g.a 99;have zd:bg 100 r.f.B r.f.B=true:=gG g.b 99;have pr:=λ{β:Type} (p:j5->β) q=>g.a.aL p q;have a1:=λ{β:Type} (p:j5->β) q=>g.b.aL p q;have ll:r'.f.cells.length=32:=rfl;subst J
 clear_value r'
 clear F G u X1 X2 X3 X4 F1 F2 F4 F5 F6 c d e n j y C D E0 E01 E02 E1 E2 E4;have u1:ld1 (some (j6 r.f.cells)) 22=some r.f.A:=by rw[ku];exact D6.c22 _
 have u2:ld1 (some (j6 r.f.cells)) 23=some r.f.B:=by rw[ku];exact D6.c23 _
 have u3:ld1 (some (j6 ((r.f.cells.set 22 h).set 23 i))) 29=some r.f.L:=by rw[ku];rfl
 simp[f61,ay t s,u1,u2,u3,X,Y,Z,K,P,R,q7,s1,s2,s3,s4,pa,pb,pl,T,U,V,zd,ll]
def Cp.short{r c:FR}(h:Cp r c)(hs:r.short):c.short:=by unfold FR.short;rw[h.a,h.b,h.l];exact hs
def Cp.key{r a:FR}(h:Cp r a):a.key=r.key:=by obtain⟨_,_,_,b,c,d,e⟩:=h;simp only[FR.key,e]
def Cp.no{r a:FR}(h:Cp r a):a.f.no=r.f.no:=by obtain⟨_,_,_,b,c,d,e⟩:=h;rw[e]
def Cp.same{r a:FR}(h:Cp r a):a.same r=true:=by obtain⟨b,c,d,f,g,i,e⟩:=h;simp[FR.same,bX,eH,nW,e,b,c,d]
def CpP(l cs:cN):Prop:=∀j (h:j<cs.length) (h':j<l.length),Cp l[j] cs[j]
def CpP.snoc{l cs:cN}{r:FR}(h:CpP l cs)(c:∀h':cs.length<l.length,Cp l[cs.length] r):CpP l (cs++[r]):=λj b a=>by
 by_cases hc:j<cs.length;rw[ai8 hc];exact h j hc a;obtain rfl:j=cs.length:=by simp at b;omega
 rw[axA Zs];simpa using c a
def Wn{o:cD}{H:j5}(a1:o.Ok)(A:o.lim<=o.nx)(hx:au o H l)(hw:∀r,r∈l->J9 o r)(hg:∀r,r∈l->r.Good)(hs:∀r,r∈l->r.short)(hb:l.length<=200)(n0 I:Nat)(U:1000<=I)(n:Nat)(hn:n=l.length):
   ∀(s i:Nat),i+s=n->∀(N:Nat),s<N->∀(M:cD) (v:j5) (cs:cN),Own o M v cs->cs.length=i->CpP l cs->(∀c,c∈cs->J9 M c)->∀(y3 y6:j5),
    ∃z6 v' M' cs',I9 (λenv m k=>Ko (l9 KW I (n0+2)) I none env m k) N (zV H (iN i) (iN n) y3 H v y6 nS) M []=some [⟨.exit 0,(zV H (iN n) (iN n) fV H v' z6 nS),M',[],none⟩]∧Own o M' v' cs'∧cs'.length=n∧CpP l cs'∧(∀c,c∈cs'->J9 M' c):=by
 intro s;induction s with
 |zero=>
  intro i hi N hN M v cs B hc K J y3 y6;obtain⟨N,rfl⟩:=sx N;obtain rfl:i=n:=Zs
  refine⟨y6,v,M,cs,?_,B,hc,K,J⟩;rw[o7];simp[Ko]
 |succ s ih=>
  intro i hi N hN M v cs B hc K J y3 y6;obtain⟨N,rfl⟩:=sx N;have b:i<l.length:=Zs
  have E0:=B.1;have hm:M.Ok:=E0.ok;have hl:M.lim<=M.nx:=by rw[E0.lim];exact dn A E0.nx
  obtain⟨id,e1,a0,e2,_⟩:=(hx.ext E0).at b;have hr:=hw l[i] (ql b);have G:=hs l[i] (ql b);have V:=hg l[i] (ql b);have E1:=o8 hm [j6 l[i].f.cells];obtain⟨g,M2,g2,E2,u,t⟩:=Wm E1.ok ZD ((hr.ext E0).ext E1) G n0 I U;have E3:cE M2 (M2.new (j6 g.f.cells)):=(cE.refl E2.ok).new _;have C:Own o (M2.new (j6 g.f.cells)) v cs:=((B.ext E1).ext E2).ext E3;have X:g.Good:=u.good (t.short G);have T:au (M2.new (j6 g.f.cells)) (.slice M2.nx 0 1 1) [g]:=.inr ⟨M2.nx,.inl ⟨1,rfl⟩,ZZ,.inr ⟨1,.nd .e g.f.cells .e,by
   rw[cD.Q5 E2.ok,cg rfl];show some (Y9.cells (len' g.f.cells) 1 (.nd .e g.f.cells .e))=_;rw[K7,D6.len],ZZ,λj hj=>by
   obtain rfl:j=0:=by simp at hj;omega
   rfl⟩⟩
  obtain⟨v',M4,hA,D,k4⟩:=Ey A C T (λr h=>by simp at h;rw[h];exact X) ZD;have y:Kp M M4:=((Kp.of E1).trans ((Kp.of E2).trans (Kp.of E3))).trans k4;obtain⟨q,hq⟩:∃q,q=i+1:=⟨_,rfl⟩;obtain⟨z6,v5,M5,P,g5,E,S,F,w⟩:=ih q Zs N Zs M4 v' (cs++[g]) D ZD (K.snoc λh'=>by
   have e:l[cs.length]=l[i]:=by congr 1
   rw[e];exact t) (λc R=>by
   rcases LA.1 R with h|h;exact(J c h).keep y;simp at h;rw[h];exact(u.ext E3).keep k4) tV (.ptr M.nx 0)
  refine⟨z6,v5,M5,P,?_,E,S,F,w⟩;have e3:=Z5 hq Zs;have Y:i<n:=Zs
  have Q:∀z O L env d,List.length z=32->J2 32 1 z O L env d=ob (lay O L env z) λa=>if a.length=32 then some (.slice d 0 1 1,some (j6 a))else none:=λz O L env d h=>I5 32 z O L env d h
  have Z:=λ{β:Type} (p:j5->β) q=>D.fs.aL p q;have W:=V.one;simp only[o9]at hA;rw[o7,← g5];generalize l[i]=x at *;clear ih K J F w y t B C E u hr;simp[Ko,ay hm hl,D8,Y,e1,e2,e3,g2,Q,hA,Z,W,D6.len]
set_option maxHeartbeats 16000000
def afO(e:m.Ok)(t:m.lim<=m.nx)(k:au m v l)(i:∀r,r∈l->J9 m r)(hs:∀r,r∈l->r.short)(hb:l.length<=200)(n b:Nat)(d:1000<=b):
   ∃v' m' cs,l9 KW b (n+3) (.func 144) [v] m=some [⟨v',m'⟩]∧Own m m' v' cs∧cs.length=l.length∧CpP l cs∧(∀c,c∈cs->J9 m' c):=by
 have a:=k.len;obtain⟨u,v',m',cs,g,o,p,q,s⟩:=Wn e t k i (λr f=>(i r f).good (hs r f)) hs hb n b d l.length rfl l.length 0 Zs b Zs m nS [] (Own.nil (cE.refl e)) rfl (λj h=>by simp at h) (λc h=>by simp at h) uV uV;refine⟨v',m',cs,?_,o,p,q,s⟩;dsimp only[iN]at g;rw[show((0:Nat):Int)=0 from rfl]at g;rw[en f144];simp[f144,a,g]
def NR:∀(n:Nat) (s:By),s.length<=n->∀c∈chunks s,c≠[]
 |0,s,h=>by obtain rfl:=U1.1 (show s.length=0 by omega);simp[dF]
 |n+1,s,h=>by
  by_cases hs:s=[];subst hs;simp[dF];have hp:=P6.2 hs;rw[ji hs];intro c hc;rcases O4.1 hc with rfl|hc;intro e;rw[List.take_eq_nil_iff]at e;rcases e with e|e<;>first|omega|exact hs e
  exact NR n (s.drop 64) ZD c hc
def tY:∀(n:Nat) (s:By),s.length<=n->(chunks s).flatten=s
 |0,s,h=>by obtain rfl:=U1.1 (show s.length=0 by omega);simp[dF]
 |n+1,s,h=>by by_cases hs:s=[];subst hs;simp[dF];have hp:=P6.2 hs;rw[ji hs,awQ,tY n (s.drop 64) ZD,atb]
def dR(no:Int)(s:By):(iQ no s).length=(chunks s).length+1:=by simp[iQ]
def Tq:Tok bZ:=nJ ZS
def oO(ns:cQ):cA 32 (C9 bZ ns)=bZ::aX ns:=by rw[iO];exact qg 32 _ _ (CJ Tq ZS) (λx a=>CJ (eY _ x a) ZS)
def Tt{a b:Int}(d:Sm a)(hb:Sm b)(h:Lib.itoa a=Lib.itoa b):a=b:=by have c:=Er d;rw[h,Er hb]at c;exact c.symm
structure nQ(no:Int)(disk:cP)(r:FR):Prop where
 valid:r.valid=true
 pre:∃rest,disk=iQ no (C8 r)++rest
variable {a:cP}{s:FR}
def nQ.many{no:Int}{r:FR}(h:nQ no a r)(k:nQ no a s):(chunks (C8 r)).length=(chunks (C8 s)).length:=by
 obtain⟨t,c⟩:=h.pre;obtain⟨u,d⟩:=k.pre;have e:C9 bZ [no,((chunks (C8 r)).length:Int),((C8 r).length:Int),(mW (C8 r):Int)]=C9 bZ [no,((chunks (C8 s)).length:Int),((C8 s).length:Int),(mW (C8 s):Int)]:=by have:=c.symm.trans d;simp only[iQ,agz]at this;exact(akk this).1
 have b:=ci (cA 32) e;rw[oO,oO]at b;simp only[aX,afp,avT,avG,true_and]at b;have f:=gI _ _ (aA (C8 r).length);have g:=gI _ _ (aA (C8 s).length);have i:=eF h.valid;have j:=eF k.valid;have:=Tt (by unfold Sm;omega) (by unfold Sm;omega) b.1;omega
def nQ.text{no:Int}{r:FR}(h:nQ no a r)(k:nQ no a s):C8 r=C8 s:=by have f:=h.many k;obtain⟨t,c⟩:=h.pre;obtain⟨u,d⟩:=k.pre;have e:=c.symm.trans d;have:=(List.append_inj e (by rw[dR,dR,f])).1;have b:chunks (C8 r)=chunks (C8 s):=(akk this).2;rw[← tY _ (C8 r) (aA _),b,tY _ (C8 s) (aA _)]
def nQ.uniq{no:Int}{r:FR}(h:nQ no a r)(k:nQ no a s):r.cn=s.cn:=
 VG (text:=C8 r) ⟨h.valid,rfl⟩ ⟨k.valid,(h.text k).symm⟩
def mP(disk:cP):Option Nat:=match disk with
 |[]=>none
 |d :: _=>match cA 32 d with
  |[_,_,w,_,_]=>match Lib.atoiAll w with
   |.ok k=>if 0<=k∧k<disk.length then some k.toNat else none
   |_=>none
  |_=>none
def acn{no:Int}{r:FR}(h:nQ no a r):mP a=some (chunks (C8 r)).length:=by
 obtain⟨t,rfl⟩:=h.pre;have b:=gI _ _ (aA (C8 r).length);have c:=eF h.valid;unfold mP;show(match cA 32 (C9 bZ [no,((chunks (C8 r)).length:Int),((C8 r).length:Int),(mW (C8 r):Int)])with
  |[_,_,w,_,_]=>match Lib.atoiAll w with
   |.ok k=>if 0<=k∧k<((iQ no (C8 r)++t).length:Int)then some k.toNat else none
   |_=>none
  |_=>none)=_
 rw[oO];simp only[aX,afp,avT];rw[Gb Zs Zs];simp only;rw[cg ⟨Zs,by rw[aaf,dR];omega⟩];simp
def ah4(k:Nat)(disk:cP):By:=((disk.drop 1).take k).flatten
def Tv{no:Int}{r:FR}(h:nQ no a r):ah4 (chunks (C8 r)).length a=C8 r:=by obtain⟨t,rfl⟩:=h.pre;have:(iQ no (C8 r)++t).drop 1=chunks (C8 r)++t:=rfl;rw[ah4,this,axR,tY _ _ (aA _)]
def NS{no:Int}{r:FR}(c:r.valid=true)(b:a.take (k+1)=iQ no (C8 r)):nQ no a r:=⟨c,a.drop (k+1),by rw[← b,atb]⟩
def XK{no:Int}{r:FR}(h:nQ no a r):a.take ((chunks (C8 r)).length+1)=iQ no (C8 r):=by obtain⟨t,rfl⟩:=h.pre;rw[← dR no,axR]
def KT(c:cL):∀s:By,Bg c s=cA c s
 |[]=>rfl
 |b::l=>by obtain⟨h,t,e⟩:=mO c l;rw[ru,KT c l,FE,cA,e];by_cases hb:b=c;rw[co hb,cg hb];rfl;rw[decide_eq_false hb,aE hb];rfl
def CR:∀ws:cP,iP [] ws=ws.flatten
 |[]=>rfl
 |[w]=>by simp[iP]
 |w::x::ws=>by have ih:=CR (x::ws);have e:iP [] (w::x::ws)=dK w (dK [] (iP [] (x::ws))):=rfl;rw[e,ih,V9,V9];simp
def Ez{b:Nat}:∀{ws:cP},(∀w∈ws,w.length<=b)->ws.flatten.length<=ws.length*b
 |[],_=>ZZ
 |w::ws,h=>by have h1:=Ez (ws:=ws) λx hx=>h x (aa1 _ hx);have h2:=h w (agD ..);simp only[awQ,aaf,aa5];rw[aic];omega
def aQ(L:cN)(k:Int):Nat:=(L.filter λr=>decide (r.f.room=k)).length
def lastB(L:cN)(k:Int):Int:=L.foldl (λn r=>if r.f.room=k then max n r.f.known else n) 0
def lF(L:cN)(r:FR):Bool:=decide (r.f.no=(aQ L r.f.room:Int)+1)&&decide (lastB L r.f.room<=r.f.known)
def AR(L:cN)(r:FR)(k:Int):aQ (L++[r]) k=aQ L k+if r.f.room=k then 1 else 0:=by unfold aQ;by_cases h:r.f.room=k<;>simp[h]
def xq(L:cN)(r:FR)(k:Int):lastB (L++[r]) k=if r.f.room=k then max (lastB L k) r.f.known else lastB L k:=by unfold lastB;simp
def xu{r:FR}(h:r.cn=s.cn):r.f.room=s.f.room∧r.f.no=s.f.no∧r.f.known=s.f.known:=by have h:=ci FR.f h;have a:r.cn.f.room=s.cn.f.room:=ci D6.room h;have b:r.cn.f.no=s.cn.f.no:=ci D6.no h;have c:r.cn.f.known=s.cn.f.known:=ci D6.known h;exact⟨a,b,c⟩
def aiP(r:FR):r.cn.f.room=r.f.room∧r.cn.f.no=r.f.no∧r.cn.f.known=r.f.known:=⟨rfl,rfl,rfl⟩
def Tw(k:Int)(L:cN):aQ (L.map FR.cn) k=aQ L k:=by
 induction L with
 |nil=>rfl
 |cons r L ih=>unfold aQ at ih ⊢;rw[afp,ari,ari,(aiP r).1];split;rw[aa5,aa5,ih];exact ih
variable {L:cN}
def AU{M:cN}(h:L.map FR.cn=M.map FR.cn)(k:Int):aQ L k=aQ M k:=by rw[← Tw k L,h,Tw]
def Gi(k:Int):∀(L:cN) (n:Int),(L.map FR.cn).foldl (λn r=>if r.f.room=k then max n r.f.known else n) n=L.foldl (λn r=>if r.f.room=k then max n r.f.known else n) n
 |[],_=>rfl
 |r::L,n=>by rw[afp,awx,awx,(aiP r).1,(aiP r).2.2];exact Gi k L _
def Tx{M:cN}(h:L.map FR.cn=M.map FR.cn)(k:Int):lastB L k=lastB M k:=by unfold lastB;rw[← Gi k L,h,Gi]
def nR{M:cN}(h:L.map FR.cn=M.map FR.cn){r:FR}(e:r.cn=s.cn):lF L r=lF M s:=by obtain⟨a,b,c⟩:=xu e;unfold lF;rw[a,b,c,AU h,Tx h]
def L9(r:FR):Nat:=(chunks (C8 r)).length+1
def Rec(n:Nat)(disk:cP)(r:FR):Prop:=n<=200∧nQ (n:Int) disk r
inductive Wo:cN->cP->cN->Prop
 |stop {L:cN} {disk:cP} (h:∀r,Rec (L.length+1) disk r->lF L r=false):Wo L disk L
 |step {L L':cN} {disk:cP} {r:FR} (h:Rec (L.length+1) disk r) (hf:lF L r=true) (k:Wo (L++[r]) (disk.drop (L9 r)) L'):Wo L disk L'
def Ab{r:FR}(h:r.cn=s.cn):C8 r=C8 s:=by rw[← wY r,h,wY]
def Wo.uniq{X:cN}(h:Wo L a X):∀{M Y:cN},L.map FR.cn=M.map FR.cn->Wo M a Y->X.map FR.cn=Y.map FR.cn:=by
 induction h with
 |@stop L a h=>
  intro M Y c k;have b:L.length=M.length:=by simpa using ci List.length c
  cases k with
  |stop _=>exact c
  |@step _ _ _ s g gf k=>rw[← b]at g;have:=h s g;rw[nR c (s:=s) rfl,gf]at this;cases this
 |@step L L' a r h hf k ih=>
  intro M Y c d;have b:L.length=M.length:=by simpa using ci List.length c
  cases d with
  |stop g=>rw[← b]at g;have:=g r h;rw[← nR c (r:=r) rfl,hf]at this;cases this
  |@step _ _ _ s g gf d=>
   rw[← b]at g;have e:=h.2.uniq g.2;have f:=Ab e;refine ih (M:=M++[s]) (by simp[c,e]) ?_;have:L9 r=L9 s:=by unfold L9;rw[f]
   rw[this];exact d
inductive Grown:cN->Prop
 |nil:Grown []
 |snoc {L:cN} {r:FR} (h:Grown L) (hv:r.valid=true) (hf:lF L r=true):Grown (L++[r])
def Grown.valid(h:Grown L):∀r∈L,r.valid=true:=by
 induction h with
 |nil=>simp
 |snoc h hv hf ih=>intro r a;rcases LA.1 a with a|a;exact ih r a;simp at a;rw[a];exact hv
def Grown.nos(h:Grown L)(k:Int):∀i (hi:i<(L.filter λr=>decide (r.f.room=k)).length),((L.filter λr=>decide (r.f.room=k))[i]).f.no=(i:Int)+1:=by
 induction h with
 |nil=>intro i hi;simp at hi
 |@snoc L r h hv hf ih=>
  intro i hi;by_cases hk:r.f.room=k;have e:((L++[r]).filter λr=>decide (r.f.room=k))=(L.filter λr=>decide (r.f.room=k))++[r]:=by simp[hk]
  simp only[e]at hi ⊢;by_cases hlt:i<(L.filter λr=>decide (r.f.room=k)).length;rw[ai8 hlt];exact ih i hlt;obtain rfl:i=(L.filter λr=>decide (r.f.room=k)).length:=by simp at hi hlt ⊢;omega
  rw[axA (aA _)];simp only[lF,oo,ck]at hf;simp only[axD,avR];rw[hf.1,hk];rfl;have e:((L++[r]).filter λr=>decide (r.f.room=k))=(L.filter λr=>decide (r.f.room=k)):=by simp[hk]
  simp only[e]at hi ⊢;exact ih i hi
def J4:Nat->cN->cP
 |_,[]=>[]
 |k,r::L=>iQ (k:Int) (C8 r)++J4 (k+1) L
def oP:∀(L:cN) (k:Nat) (r:FR),J4 k (L++[r])=J4 k L++iQ ((k+L.length:Nat):Int) (C8 r)
 |[],k,r=>by simp[J4]
 |s::L,k,r=>by simp only[agz,J4,oP L (k+1) r,aa5,atW];rw[show k+1+L.length=k+(L.length+1)from by omega]
def Gj:∀(L:cN) (k:Nat),J4 k (L.map FR.cn)=J4 k L
 |[],_=>rfl
 |r::L,k=>by rw[afp,J4,J4,wY,Gj L]
def KU{M:cN}(h:L.map FR.cn=M.map FR.cn)(k:Nat):J4 k L=J4 k M:=by rw[← Gj L,h,Gj]
variable {xs:cP}
def aco{w:j5}{d:cP}(u:dV m v (strs xs))(x:dV m w (strs d))(D:xs.length=d.length)(hb:xs.length<=100000)(cf:G6)(l:Nat):∀(j i:Nat),i+j=xs.length->∀(a5 a6 a7:j5) (N:Nat),j+1<=N->
   (xs.drop i=d.drop i∧∃(b6 b7:j5),I9 (λenv m k=>wR cf l none env m k) N (Mc v w fV (iN i) (iN (xs.length)) a5 a6 a7 fV) m []=some [⟨.exit 0,(Mc v w fV (iN (xs.length)) (iN (xs.length)) fV b6 b7 fV),m,[],none⟩])∨
   (xs.drop i≠d.drop i∧∃(b3 b5 b6 b7:j5),I9 (λenv m k=>wR cf l none env m k) N (Mc v w fV (iN i) (iN (xs.length)) a5 a6 a7 fV) m []=some [⟨.ret,(Mc v w fV b3 (iN (xs.length)) b5 b6 b7 fV),m,[],none⟩]):=by
 intro j;induction j with
 |zero=>
  intro i C a5 a6 a7 N A;obtain⟨N,rfl⟩:=sx N;obtain rfl:i=xs.length:=Zs
  refine .inl ⟨by rw[su (aA _),su Zs],a6,a7,?_⟩;rw[o7];simp[wR]
 |succ j ih=>
  intro i C a5 a6 a7 N A;obtain⟨N,rfl⟩:=sx N;have a:i<xs.length:=Zs
  have b:i<d.length:=Zs
  obtain⟨id,o,n,_,r⟩:=u.at (i:=i) (by rw[G7];exact a);have f:(strs xs)[i]'(by rw[G7];exact a)=.str xs[i]:=by simp[strs]
  rw[f]at r;simp at n;obtain⟨E,F,s,_,t⟩:=x.at (i:=i) (by rw[G7];exact b);have e:(strs d)[i]'(by rw[G7];exact b)=.str d[i]:=by simp[strs]
  rw[e]at t;simp at s;have y:=λ{β:Type} (p:j5->β) q=>u.aL p q;have z:=λ{β:Type} (p:j5->β) q=>x.aL p q;rw[zu a,zu b];by_cases hq:xs[i]=d[i];have c:∀R:Option (List Out),I9 (λenv m k=>wR cf l none env m k) N (Mc v w fV (iN ((i+1))) (iN (xs.length)) tV (iN i) fV fV) m []=R->I9 (λenv m k=>wR cf l none env m k) (N+1) (Mc v w fV (iN i) (iN (xs.length)) a5 a6 a7 fV) m []=R:=λR B=>by rw[o7,← B];simp[wR,a,n,r,s,t,y,z,hq,I4 (i:=i) Zs]
  rcases ih (i+1) Zs tV (iN i) fV N Zs with⟨h1,b5,b6,g⟩|⟨h1,b3,b4,b5,b6,g⟩;exact .inl ⟨by rw[hq,h1],b5,b6,c _ g⟩;exact .inr ⟨λh=>h1 (by injection h),b3,b4,b5,b6,c _ g⟩;refine .inr ⟨λh=>hq (by injection h),(iN i),tV,(iN i),tV,?_⟩;rw[o7];simp[wR,a,n,r,s,t,y,z,hq]
def afP{w:j5}{ys:cP}(e:dV m v (strs xs))(f:dV m w (strs ys))(hb:xs.length<=10000)(n b:Nat)(i:20000<=b):l9 KW b (n+1) (.func 134) [v,w] m=some [⟨.bool (decide (xs=ys)),m⟩]:=by
 have c:=e.len;have d:=f.len;rw[G7]at c d;rw[en f134];by_cases hxy:xs.length=ys.length;rcases aco e f hxy Zs (l9 KW b n) b xs.length 0 Zs uV uV uV b Zs with⟨a,b5,b6,g⟩|⟨a,b3,b4,b5,b6,g⟩;have a:xs=ys:=by simpa using a
 simp at g;simp[f134,c,d,hxy]at g ⊢;simp[g,a];have a:¬ xs=ys:=by simpa using a
 simp at g;simp[f134,c,d,hxy]at g ⊢;simp[g,a];have a:¬ xs=ys:=λh=>hxy (by rw[h]);have j:¬ ((xs.length:Nat):Int)=(ys.length:Int):=Zs
 simp[f134,c,d,j,a]
variable {i:Nat}
def au.atK{b:cN}(h:au m v b)(hi:i<b.length):
   ∃id,xC v none (λid off len _=>idx len (iV i) λk=>some (j5.ptr id (off+k*32))) (λid off len _=>idx len (iV i) λk=>some (j5.ptr id (off+k*32)))=some (.ptr id (i*32))∧id<m.nx∧
    RU (m.get id) (i*32) 32=some (.agg b[i].f.cells)∧ld1 (m.get id) (i*32)=some (iV b[i].f.room)∧ld1 (m.get id) (i*32+1)=some (iV b[i].f.no)∧ld1 (m.get id) (i*32+2)=some (iV b[i].f.known):=by
 obtain⟨id,a,e,g,l,o,_⟩:=h.at hi;refine⟨id,a,e,g,l,o,?_⟩;rcases h with⟨_,rfl⟩|⟨id',hv,h2,h3⟩;simp at hi;have d:id'=id:=by rcases hv with⟨c',rfl⟩|rfl;simp only[vI]at a;rw[Z0 _ _ _ hi]at a;have:=rW a;injection this;simp only[rV]at a;rw[Z0 _ _ _ hi]at a;have:=rW a;injection this
 subst d;rcases h3 with rfl|⟨c,cF,h4,h5,h6⟩;simp at hi;rw[h4];exact iw (rs:=32) (n:=c) (cF:=cF) (i:=i) (j:=2) Zs Zs (h6 i hi)
variable {fv:j5}
def afQ(E:m.Ok)(d:m.lim<=m.nx)(F:au m fv L)(B:∀r,r∈L->r.Good)(hb:L.length<=1000)(k:Int)(cf:G6)(y:Nat):∀(j i:Nat),i+j=L.length->∀(N:Nat),j<N->∀(M:cD),cE m M->∀(a3 a5 a7:j5),
   ∃b5 b7 M',I9 (λenv m k=>Nq cf y none env m k) N (zW (.ptr p 0) (iN i) (iN (L.length)) a3 fv a5 (iV k) a7 (iN (aQ (L.take i) k)) iZ) M []=some [⟨.exit 0,(zW (.ptr p 0) (iN (L.length)) (iN (L.length)) fV fv b5 (iV k) b7 (iN (aQ (L) k)) iZ),M',[],none⟩]∧cE m M':=by
 intro j;induction j with
 |zero=>
  intro i C N z M b a3 a5 a7;obtain⟨N,rfl⟩:=sx N;obtain rfl:i=L.length:=Zs
  refine⟨a5,a7,M,?_,b⟩;rw[o7,arO];simp[Nq]
 |succ j ih=>
  intro i C N z M b a3 a5 a7;obtain⟨N,rfl⟩:=sx N;have a:i<L.length:=Zs
  have e:M.Ok:=b.ok;have t:M.lim<=M.nx:=by rw[b.lim];exact dn d b.nx
  obtain⟨id,h,D,l,_⟩:=(F.ext b).at a;have v:=(B _ (ql a)).one;have E1:=b.trans (o8 e [j6 L[i].f.cells]);obtain⟨q,u⟩:∃q,q=i+1:=⟨_,rfl⟩;have n:=Z5 u Zs;have o:L.take q=L.take i++[L[i]]:=by rw[u];exact O7 a
  by_cases hk:L[i].f.room=k;obtain⟨b5,b7,M',g,E2⟩:=ih q Zs N Zs _ E1 tV (.ptr M.nx 0) tV;refine⟨b5,b7,M',?_,E2⟩;rw[o,AR,cg hk]at g;obtain⟨c,s⟩:∃c,c=aQ (L.take i) k+1:=⟨_,rfl⟩;have A:aQ (L.take i) k<=1000:=by have:=aiC (λr:FR=>decide (r.f.room=k)) (L.take i);have G:=List.length_take_le i L;unfold aQ;omega
  have w:=Z5 s Zs;rw[← s]at g;rw[o7,← g];generalize L[i]=x at *;clear ih g;simp[Nq,ay e t,D8,a,h,l,n,w,v,hk,D6.len];obtain⟨b5,b7,M',g,E2⟩:=ih q Zs N Zs _ E1 tV (.ptr M.nx 0) fV;refine⟨b5,b7,M',?_,E2⟩;rw[o,AR,aE hk]at g;try rw[adh]at g
  rw[o7,← g];generalize L[i]=x at *;clear ih g;simp[Nq,ay e t,D8,a,h,l,n,v,hk,D6.len]
variable {lv:j5}
def Qo{cw:Int}(d:m.Ok)(h:m.lim<=m.nx)(hp:m.get p=some (j6 [lv,iV cw,fv]))(c:au m fv L)(f:∀r,r∈L->r.Good)(hb:L.length<=1000)(k:Int)(n a:Nat)(e:2000<=a):
   ∃m',l9 KW a (n+1) (.func 60) [.ptr p 0,iV k] m=some [⟨(iN (aQ (L) k)),m'⟩]∧cE m m':=by
 have b:=c.len;have s:=c.cells;have t:=λ{β:Type} (p:j5->β) q=>c.aL p q;obtain⟨l,o,m',g,E⟩:=afQ (p:=p) d h c f hb k (l9 KW a n) a L.length 0 Zs a Zs m (cE.refl d) uV uV uV;refine⟨m',?_,E⟩;rw[en f60];have i:L.take 0=[]:=rfl;rw[i]at g;have j:aQ [] k=0:=rfl;rw[j]at g;simp at g;simp[f60,hp,b,g]
def XL{x y:OF}{ls:cM}{env:T j5}{a b:Int}(c:x ls env=iV a)(d:y ls env=iV b):pMm true x [y] ls env=some (iV (max a b)):=by show ob (mm2 true (x ls env) (y ls env)) some=_;rw[c,d];show some (j5.int .i64 (bi (mX a b) b a))=_;by_cases h:a<b;rw[show mX a b=true from by rw[iY];simp;omega,aC];congr 2;omega;rw[show mX a b=false from by rw[iY];simp;omega,bA];congr 2;omega
def afR(F:m.Ok)(e:m.lim<=m.nx)(l:au m fv L)(C:∀r,r∈L->r.Good)(hb:L.length<=1000)(k:Int)(cf:G6)(A:Nat):∀(j i:Nat),i+j=L.length->∀(N:Nat),j<N->∀(M:cD),cE m M->∀(a3 a5 a7:j5),
   ∃b5 b7 M',I9 (λenv m k=>Nr cf A none env m k) N (zW (.ptr p 0) (iN i) (iN (L.length)) a3 fv a5 (iV k) a7 (iV (lastB (L.take i) k)) iZ) M []=some [⟨.exit 0,(zW (.ptr p 0) (iN (L.length)) (iN (L.length)) fV fv b5 (iV k) b7 (iV (lastB (L) k)) iZ),M',[],none⟩]∧cE m M':=by
 intro j;induction j with
 |zero=>
  intro i D N B M d a3 a5 a7;obtain⟨N,rfl⟩:=sx N;obtain rfl:i=L.length:=Zs
  refine⟨a5,a7,M,?_,d⟩;rw[o7,arO];simp[Nr]
 |succ j ih=>
  intro i D N B M d a3 a5 a7;obtain⟨N,rfl⟩:=sx N;have c:i<L.length:=Zs
  have h:M.Ok:=d.ok;have u:M.lim<=M.nx:=by rw[d.lim];exact dn e d.nx
  obtain⟨id,n,E,o,_⟩:=(l.ext d).at c;have w:=(C _ (ql c)).one;have E1:=d.trans (o8 h [j6 L[i].f.cells]);obtain⟨q,v⟩:∃q,q=i+1:=⟨_,rfl⟩;have s:=Z5 v Zs;have t:L.take q=L.take i++[L[i]]:=by rw[v];exact O7 c
  by_cases hk:L[i].f.room=k;obtain⟨b5,b7,M',g,E2⟩:=ih q Zs N Zs _ E1 tV (.ptr M.nx 0) tV;refine⟨b5,b7,M',?_,E2⟩;rw[t,xq,cg hk]at g;have z:=λx y H env a b l G=>@XL x y H env a b l G;rw[o7,← g];generalize L[i]=x at *;clear ih g;simp[Nr,ay h u,D8,c,n,o,s,z,w,hk,D6.len];obtain⟨b5,b7,M',g,E2⟩:=ih q Zs N Zs _ E1 tV (.ptr M.nx 0) fV;refine⟨b5,b7,M',?_,E2⟩;rw[t,xq,aE hk]at g
  skip
  rw[o7,← g];generalize L[i]=x at *;clear ih g;simp[Nr,ay h u,D8,c,n,o,s,w,hk,D6.len]
def acp{cw:Int}(d:m.Ok)(h:m.lim<=m.nx)(hp:m.get p=some (j6 [lv,iV cw,fv]))(c:au m fv L)(f:∀r,r∈L->r.Good)(hb:L.length<=1000)(k:Int)(n a:Nat)(e:2000<=a):
   ∃m',l9 KW a (n+1) (.func 63) [.ptr p 0,iV k] m=some [⟨(iV (lastB (L) k)),m'⟩]∧cE m m':=by
 have b:=c.len;have s:=c.cells;have t:=λ{β:Type} (p:j5->β) q=>c.aL p q;obtain⟨l,o,m',g,E⟩:=afR (p:=p) d h c f hb k (l9 KW a n) a L.length 0 Zs a Zs m (cE.refl d) uV uV uV;refine⟨m',?_,E⟩;rw[en f63];have i:L.take 0=[]:=rfl;rw[i]at g;have j:lastB [] k=0:=rfl;rw[j]at g;simp at g;simp[f63,hp,b,g]
def afS(s:au m fv L)(hb:L.length<=1000)(k:Int)(cf:G6)(w:Nat):∀(j i:Nat),i+j=L.length->∀(N:Nat),j<N->∀(a2 a4:j5),
   ∃b4,I9 (λenv m k=>Ns cf w none env m k) N (Da (iN i) fv a2 (iV k) a4 (iN (aQ (L.take i) k)) iZ) m []=some [⟨.exit 0,(Da (iN (L.length)) fv fV (iV k) b4 (iN (aQ (L) k)) iZ),m,[],none⟩]:=by
 have a:=s.len;intro j;induction j with
 |zero=>
  intro i A N y a2 a4;obtain⟨N,rfl⟩:=sx N;obtain rfl:i=L.length:=Zs
  refine⟨a4,?_⟩;rw[o7,arO];simp[Ns,a]
 |succ j ih=>
  intro i A N y a2 a4;obtain⟨N,rfl⟩:=sx N;have b:i<L.length:=Zs
  obtain⟨id,d,B,e,l,u,v⟩:=s.atK b;obtain⟨q,p⟩:∃q,q=i+1:=⟨_,rfl⟩;have h:=Z5 p Zs;have n:L.take q=L.take i++[L[i]]:=by rw[p];exact O7 b
  by_cases hk:L[i].f.room=k;obtain⟨b4,g⟩:=ih q Zs N Zs tV tV;refine⟨b4,?_⟩;rw[n,AR,cg hk]at g;obtain⟨c,o⟩:∃c,c=aQ (L.take i) k+1:=⟨_,rfl⟩;have z:aQ (L.take i) k<=1000:=by have:=aiC (λr:FR=>decide (r.f.room=k)) (L.take i);have C:=List.length_take_le i L;unfold aQ;omega
  have t:=Z5 o Zs;rw[← o]at g;rw[o7,← g];generalize L[i]=x at *;clear ih g;simp[Ns,a,b,d,e,h,t,l,u,v,hk];obtain⟨b4,g⟩:=ih q Zs N Zs tV fV;refine⟨b4,?_⟩;rw[n,AR,aE hk]at g;try rw[adh]at g
  rw[o7,← g];generalize L[i]=x at *;clear ih g;simp[Ns,a,b,d,e,h,l,hk]
def KV(c:au m fv L)(hb:L.length<=1000)(k:Int)(n a:Nat)(b:2000<=a):
   l9 KW a (n+1) (.func 64) [fv,iV k] m=some [⟨(iN (aQ (L) k)),m⟩]:=by
 obtain⟨f,g⟩:=afS c hb k (l9 KW a n) a L.length 0 Zs a Zs uV uV;rw[en f64];have d:L.take 0=[]:=rfl;rw[d]at g;have e:aQ [] k=0:=rfl;rw[e]at g;simp at g;simp[f64,g]
def afT(e:au m fv L)(hb:L.length<=1000)(k:Int)(cf:G6)(v:Nat):∀(j i:Nat),i+j=L.length->∀(N:Nat),j<N->∀(a2 a4:j5),
   ∃b4,I9 (λenv m k=>Nt cf v none env m k) N (Da (iN i) fv a2 (iV k) a4 (iV (lastB (L.take i) k)) iZ) m []=some [⟨.exit 0,(Da (iN (L.length)) fv fV (iV k) b4 (iV (lastB (L) k)) iZ),m,[],none⟩]:=by
 have c:=e.len;intro j;induction j with
 |zero=>
  intro i z N w a2 a4;obtain⟨N,rfl⟩:=sx N;obtain rfl:i=L.length:=Zs
  refine⟨a4,?_⟩;rw[o7,arO];simp[Nt,c]
 |succ j ih=>
  intro i z N w a2 a4;obtain⟨N,rfl⟩:=sx N;have d:i<L.length:=Zs
  obtain⟨id,h,A,l,o,t,u⟩:=e.atK d;obtain⟨q,r⟩:∃q,q=i+1:=⟨_,rfl⟩;have n:=Z5 r Zs;have p:L.take q=L.take i++[L[i]]:=by rw[r];exact O7 d
  by_cases hk:L[i].f.room=k;obtain⟨b4,g⟩:=ih q Zs N Zs tV tV;refine⟨b4,?_⟩;rw[p,xq,cg hk]at g;have s:=λx y C env a b e B=>@XL x y C env a b e B;rw[o7,← g];generalize L[i]=x at *;clear ih g;simp[Nt,c,d,h,l,n,s,o,t,u,hk];obtain⟨b4,g⟩:=ih q Zs N Zs tV fV;refine⟨b4,?_⟩;rw[p,xq,aE hk]at g
  skip
  rw[o7,← g];generalize L[i]=x at *;clear ih g;simp[Nt,c,d,h,l,n,o,hk]
def acr(c:au m fv L)(hb:L.length<=1000)(k:Int)(n a:Nat)(b:2000<=a):
   l9 KW a (n+1) (.func 66) [fv,iV k] m=some [⟨(iV (lastB (L) k)),m⟩]:=by
 obtain⟨f,g⟩:=afT c hb k (l9 KW a n) a L.length 0 Zs a Zs uV uV;rw[en f66];have d:L.take 0=[]:=rfl;rw[d]at g;have e:lastB [] k=0:=rfl;rw[e]at g;simp at g;simp[f66,g]
def acs{cw:Int}{r:FR}(b:m.Ok)(h:m.lim<=m.nx)(d:p<m.nx)(hp:m.get p=some (j6 [lv,iV cw,fv]))(u:au m fv L)(t:∀r,r∈L->r.Good)(hb:L.length<=1000)(n g:Nat)(a:2000<=g):
   ∃m',l9 KW g (n+2) (.func 58) [(.ptr p 0),.agg r.f.cells] m=some [⟨.bool (lF L r),m'⟩]∧cE m m':=by
 rw[en f58];have E1:=o8 b [j6 r.f.cells];have lim:∀{M:cD},cE m M->M.lim<=M.nx:=λE=>by rw[E.lim];exact dn h E.nx
 obtain⟨M1,j,E2'⟩:=Qo E1.ok (lim E1) ((E1.old p d).trans hp) (u.ext E1) t hb r.f.room n g a;have E2:=E1.trans E2';have i:M1.get m.nx=some (j6 r.f.cells):=by rw[E2'.old _ ZZ,l8 b];rfl
 obtain⟨M2,q,E3'⟩:=acp E2.ok (lim E2) ((E2.old p d).trans hp) (u.ext E2) t hb r.f.room n g a;have E3:=E2.trans E3';have v:M2.get m.nx=some (j6 r.f.cells):=by rw[E3'.old _ (by have:=E2'.nx;simp at this;omega)];exact i
 obtain⟨c,o⟩:∃c,c=aQ L r.f.room+1:=⟨_,rfl⟩;have w:aQ L r.f.room<=1000:=by have:=aiC (λs:FR=>decide (s.f.room=r.f.room)) L;unfold aQ;omega
 have k:=Z5 o Zs;by_cases h1:r.f.no=(c:Int);refine⟨M2,?_,E3⟩;have l:lF L r=decide (lastB L r.f.room<=r.f.known):=by unfold lF;rw[co (show r.f.no=(aQ L r.f.room:Int)+1 by rw[h1,o];rfl),ajy]
 rw[l];by_cases h3:lastB L r.f.room<=r.f.known;simp[f58,ay b h,j,i,v,q,k,h1,h3,G8];simp[f58,ay b h,j,i,v,q,k,h1,h3,G8];refine⟨M1,?_,E2⟩;have l:lF L r=false:=by unfold lF;rw[decide_eq_false (show¬ r.f.no=(aQ L r.f.room:Int)+1 by intro e;apply h1;rw[e,o];rfl),axT]
 rw[l];simp[f58,ay b h,j,i,k,h1,G8]
def acu{r:FR}(g:m.Ok)(d:m.lim<=m.nx)(o:au m fv L)(hb:L.length<=1000)(n b:Nat)(a:2000<=b):
   ∃m',l9 KW b (n+2) (.func 70) [fv,.agg r.f.cells] m=some [⟨.bool (lF L r),m'⟩]∧cE m m':=by
 rw[en f70];have E1:=o8 g [j6 r.f.cells];have lim:∀{M:cD},cE m M->M.lim<=M.nx:=λE=>by rw[E.lim];exact dn d E.nx
 have h:=KV (o.ext E1) hb r.f.room n b a;have l:=acr (o.ext E1) hb r.f.room n b a;obtain⟨c,k⟩:∃c,c=aQ L r.f.room+1:=⟨_,rfl⟩;have p:aQ L r.f.room<=1000:=by have:=aiC (λs:FR=>decide (s.f.room=r.f.room)) L;unfold aQ;omega
 have i:=Z5 k Zs;by_cases h1:r.f.no=(c:Int);refine⟨(ext m [j6 r.f.cells]),?_,E1⟩;have j:lF L r=decide (lastB L r.f.room<=r.f.known):=by unfold lF;rw[co (show r.f.no=(aQ L r.f.room:Int)+1 by rw[h1,k];rfl),ajy]
 rw[j];by_cases h3:lastB L r.f.room<=r.f.known;simp[f70,ay g d,h,l,i,h1,h3,G8];simp[f70,ay g d,h,l,i,h1,h3,G8];refine⟨(ext m [j6 r.f.cells]),?_,E1⟩;have j:lF L r=false:=by unfold lF;rw[decide_eq_false (show¬ r.f.no=(aQ L r.f.room:Int)+1 by intro e;apply h1;rw[e,k];rfl),axT]
 rw[j];simp[f70,ay g d,h,i,h1,G8]
def DkE(m:cD)(v:j5)(ws:cP):Prop:=
 xS m v ws∨ws=[]∧∃id off,((∃c,v=.slice id off 0 c)∨v=.sliceU id off 0 1)∧id<m.nx
variable {ws:cP}
def DkE.vs(h:DkE m v ws):dV m v (strs ws):=by rcases h with h|⟨rfl,id,off,h1,h2⟩;exact h.vs;refine .inr ⟨id,off,?_,h2,.inl rfl⟩;rcases h1 with⟨c,rfl⟩|rfl;exact .inl ⟨c,rfl,ahe _⟩;exact .inr rfl
def DkE.ext{a:cD}(e:cE m a)(h:DkE m v ws):DkE a v ws:=by rcases h with h|⟨rfl,id,off,h1,h2⟩;exact .inl (h.ext e);exact .inr ⟨rfl,id,off,h1,aP h2 e.nx⟩
def DkE.dk(h:DkE m v ws)(hn:ws≠[]):xS m v ws:=by rcases h with h|⟨rfl,_⟩;exact h;exact cj rfl hn
def Kn(v:j5):Prop:=∀i o l e,v≠.sliceU i o l e
def Wp(lo:Nat)(v:j5):Prop:=(∀i o l c,v=.slice i o l c->i<lo)∧∀i o l e,v=.sliceU i o l e->i<lo
def KX{α:Type}(l:List α)(o n a k:Nat)(h:a+k<=n):(((l.drop o).take n).drop a).take k=(l.drop (o+a)).take k:=by rw[List.drop_take,List.take_take,ajs,avy Zs]
def Wq(h:xS m v ws)(a k:Nat)(hn:ws≠[])(u:a+k<=ws.length)(n:Kn v∨a<ws.length)(nid:Nat):
   ∃v',(∀(hi:Option Nat),(hi=some (a+k)∨hi=none∧a+k=ws.length)->K6 nid 1 v a hi=some (v',none))∧xS m v' ((ws.drop a).take k)∧(Kn v->Kn v')∧(∀lo,Wp lo v->Wp lo v'):=by
 rcases h with⟨rfl,h⟩|⟨id,off,h0,h1,h2,all,cF,h3,h4,h5,h6⟩;exact cj h hn;have g:((ws.drop a).take k).length=k:=ZD
 have y:=P6.2 hn;have j:(ws.drop a).take k=(all.drop (off+a)).take k:=by have e:(ws.drop a).take k=(((all.drop off).take ws.length).drop a).take k:=ci (λl:cP=>(l.drop a).take k) h6;rw[e,KX _ _ _ _ _ u]
 have t:ble a (a+k)=true:=l7 Zs;have w:Nat.sub (a+k) a=k:=by show a+k-a=k;omega
 rcases h1 with⟨c,rfl,hc⟩|rfl;have f:ble (a+k) c=true:=l7 Zs;have b:K6.known 1 a id off c (a+k)=some (.slice id (bi (beq a c) off (Nat.add off (Nat.mul a 1))) k (Nat.sub c a),none):=by show bi (ble a (a+k)) (bi (ble (a+k) c) (some (j5.slice id (bi (beq a c) off (Nat.add off (Nat.mul a 1))) (Nat.sub (a+k) a) (Nat.sub c a),(none:Option Y9))) none) none=_;rw[t,f,w];rfl
 refine⟨_,λhi p=>?_,.inr ⟨id,bi (beq a c) off (Nat.add off (Nat.mul a 1)),h0,.inl ⟨Nat.sub c a,by rw[g],by rw[g];show k<=c-a;omega⟩,h2,all,cF,h3,h4,?_,?_⟩,λ_ i o l e d=>(by cases d),λlo j=>⟨λi o l x d=>(by injection d with d;rw[← d];exact j.1 id off ws.length c rfl),λi o l e d=>(by cases d)⟩⟩;rcases p with rfl|⟨rfl,d⟩;exact b;have:K6.known 1 a id off c ws.length=_:=d▸b;exact this;rw[g];cases hbc:beq a c with
 |true=>have:=nA hbc;show off+k<=all.length;omega
 |false=>show off+a*1+k<=all.length;omega
 rw[g,j];cases hbc:beq a c with
 |true=>
  have:=nA hbc;have q:k=0:=Zs
  subst q;simp
 |false=>
  have e:bi false off (Nat.add off (Nat.mul a 1))=off+a:=by show off+a*1=_;omega
  rw[e]
 have s:a<ws.length:=by rcases n with n|n;exact cj rfl (n id off ws.length 1);exact n
 have f:ble (a+k) ws.length=true:=l7 u;have b:K6.unk nid 1 a id off ws.length 1 (a+k)=some (.sliceU id (Nat.add off (Nat.mul a 1)) k 1,none):=by show bi (ble a (a+k)) (bi (ble (a+k) ws.length) (bi (beq 1 1) (bi (blt a ws.length) (some (j5.sliceU id (Nat.add off (Nat.mul a 1)) (Nat.sub (a+k) a) 1,(none:Option Y9))) _) none) none) none=_;rw[t,f,w,show blt a ws.length=true from O8.mpr s];rfl
 have e:Nat.add off (Nat.mul a 1)=off+a:=by show off+a*1=_;omega
 refine⟨.sliceU id (Nat.add off (Nat.mul a 1)) k 1,λhi p=>?_,.inr ⟨id,off+a,h0,.inr (by rw[g,e]),h2,all,cF,h3,h4,by rw[g];omega,by rw[g,j]⟩,λr=>cj rfl (r id off ws.length 1),λlo j=>⟨λi o l x d=>(by cases d),λi o l e d=>(by injection d with d;rw[← d];exact j.2 id off ws.length 1 rfl)⟩⟩;rcases p with rfl|⟨rfl,d⟩;exact b;have:K6.unk nid 1 a id off ws.length 1 ws.length=_:=d▸b;exact this
variable {x:OF}
def acw{a b:OF}{ls:cM}{env:T j5}{j:Nat}(d:x ls env=v)(c:a ls env=iV (i:Int))(hb:b ls env=iV (j:Int))(nid:Nat):TU 1 x (some a) (some b) ls env nid=K6 nid 1 v i (some j):=by show jC (a ls env) (λl=>jC (b ls env) λh=>K6 nid 1 (x ls env) l (some h))=_;rw[c,kQ,je];show jC (b ls env) (λh=>K6 nid 1 (x ls env) i (some h))=_;rw[hb,kQ,je,d]
def Ws{b:OF}{ls:cM}{env:T j5}{j:Nat}(a:x ls env=v)(hb:b ls env=iV (j:Int))(nid:Nat):TU 1 x none (some b) ls env nid=K6 nid 1 v 0 (some j):=by show jC (b ls env) (λh=>K6 nid 1 (x ls env) 0 (some h))=_;rw[hb,kQ,je,a]
def acy{a:OF}{ls:cM}{env:T j5}(c:x ls env=v)(b:a ls env=iV (i:Int))(nid:Nat):TU 1 x (some a) none ls env nid=K6 nid 1 v i none:=by show jC (a ls env) (λl=>K6 nid 1 (x ls env) l none)=_;rw[b,kQ,je,c]
def XM(r:m.Ok)(h:xS m v ws)(a:Nat)(hn:ws≠[])(q:a<=ws.length):
   ∃v' b,K6 m.nx 1 v a none=some (v',b)∧((b=none∧xS m v' (ws.drop a)∧∀lo,Wp lo v->Wp lo v')∨∃i,b=some (.tail i)∧DkE (m.new (.tail i)) v' (ws.drop a)∧ws.drop a=[])∧(Kn v->Kn v'):=by
 by_cases hz:Kn v∨a<ws.length;obtain⟨v',f,g,k,n⟩:=Wq h a (ws.length-a) hn Zs hz m.nx;refine⟨v',none,f none (.inr ⟨rfl,Zs⟩),.inl ⟨rfl,?_,n⟩,k⟩;rw[P9 ZZ]at g;exact g;have d:¬ Kn v:=λe=>hz (.inl e);have j:a=ws.length:=by have:¬ a<ws.length:=λe=>hz (.inr e);omega
 rcases h with⟨rfl,h⟩|⟨id,off,h0,f,g,all,cF,k,n,h5,h6⟩;exact cj h hn;rcases f with⟨c,rfl,hc⟩|rfl;exact cj (λi o l e p=>by cases p) d;subst j;refine⟨.sliceU m.nx 0 0 1,some (.tail id),?_,.inr ⟨id,rfl,.inr ⟨su (aA _),m.nx,0,.inr rfl,ZZ⟩,su (aA _)⟩,λe=>cj e d⟩;have s:=P6.2 hn;show bi (ble ws.length ws.length) (bi (ble ws.length ws.length) (bi (beq 1 1) (bi (blt ws.length ws.length) _ (bi (beq ws.length 0) _ (some (j5.sliceU m.nx 0 0 1,some (Y9.tail id))))) none) none) none=_;rw[show ble ws.length ws.length=true from l7 (aA _),show blt ws.length ws.length=false from aa0.2 λe=>by have:=O8.mp e;omega,show beq ws.length 0=false from aa0.2 λe=>by have:=nA e;omega];rfl
def Rec.of{no:Nat}{r:FR}(hn:no<=200)(b:r.valid=true)(h:iQ (no:Int) (C8 r)=a.take (k+1)):Rec no a r:=⟨hn,NS b h.symm⟩
def Rec.head{no:Nat}{r:FR}(h:Rec no a r):mP a=some (chunks (C8 r)).length:=acn h.2
def KY(c:cL):∀u:By,(∃k:Nat,oM c u=(k:Int)∧k<u.length∧Bg c u=u.take k::Bg c (u.drop (k+1)))∨oM c u=-1∧Bg c u=[u]
 |[]=>.inr ⟨rfl,rfl⟩
 |b::l=>by
  have hi:oM c (b::l)=bi (beq b.toNat c.toNat) 0 (bi (qC (oM c l) (Int.negSucc 0)) (Int.negSucc 0) (oM c l+1)):=rfl;cases hb:beq b.toNat c.toNat with
  |true=>exact .inl ⟨0,by rw[hi,hb];rfl,ZZ,by rw[ru,hb];rfl⟩
  |false=>rw[hb]at hi;rcases KY c l with⟨k,h1,h2,h3⟩|⟨h1,h3⟩;refine .inl ⟨k+1,?_,ZD,by rw[ru,hb,h3];rfl⟩;rw[hi,h1,ny,show((k:Int)==Int.negSucc 0)=false from by simp];rfl;exact .inr ⟨by rw[hi,h1];rfl,by rw[ru,hb,h3];rfl⟩
def Tz(c:cL):∀u:By,(Bg c u).length=nI c u+1∧nI c u<=u.length
 |[]=>⟨rfl,aA _⟩
 |b::l=>by
  obtain⟨h1,h2⟩:=Tz c l;have hi:nI c (b::l)=bi (beq b.toNat c.toNat) (Nat.succ (nI c l)) (nI c l):=rfl;obtain⟨h,t,e⟩:=Pn c l;rw[ru,e,hi];rw[e]at h1;cases beq b.toNat c.toNat with
  |true=>exact⟨by simpa using h1,ZD⟩
  |false=>exact⟨by simpa using h1,ZD⟩
def avC{z:cM}{y:OF}{ls:cM}{env:T j5}{nid a:Nat}(b:x ls env=iV (a:Int))(c:y ls env=iV (a:Int))(d:a<=2000000):
   mY 1 16 z x y ls env nid=some (.slice nid 0 a a,some (.cells 1 a (T.rep z a .e 0))):=by
 unfold mY;rw[b,c];show bi (ble a a) (bi (ble (Nat.mul 16 a) 281474976710656) (bi (blt a 9223372036854775808) _ none) none) none=_;rw[l7 (aA a),l7 (show Nat.mul 16 a<=281474976710656 from by show 16*a<=_;omega),O8.mpr (show a<9223372036854775808 by omega)];rfl
def BkS(m:cD)(id:Nat)(D:cP):Prop:=id<m.nx∧∃t,m.get id=some (.cells 1 D.length t)∧T.Ok t D.length∧∀j (h:j<D.length),t.get j=some [.str D[j]]
variable {D:cP}
def NT{id:Nat}(h:BkS m id D)(l:m.Ok)(b:m.lim<=id)(hi:i<D.length)(s:By):
   ∃m',(∀{β:Type} (k:cD->Option β),storeAt m id i [.str s] k=k m')∧BkS m' id (D.set i s)∧bC id m m':=by
 obtain⟨d,t,p,f,n⟩:=h;have c:=n i hi;have v:bf 1 D.length t i [.str s]=some (t.put i [.str s]):=by have u:Nat.div i 1=i:=Nat.div_one i;have w:Nat.mod i 1=0:=Nat.mod_one i;unfold bf;rw[u,w,show blt i D.length=true from O8.mpr hi,c];rfl
 refine⟨m.set id (.cells 1 D.length (t.put i [.str s])),λk=>?_,⟨by simpa using d,t.put i [.str s],by rw[cD.R9 l d,cg rfl];simp,by simpa using T.Ok.put f i _ Zs,λj o=>?_⟩,⟨cD.Ok.set l d _,ZZ,rfl,λj o q=>by rw[cD.R9 l d,aE q]⟩⟩;have r:H8 [j5.str s]=true:=rfl;rw[bI b r,p];show ob (ob (bf 1 D.length t i [.str s]) λa=>some (Y9.cells 1 D.length a)) _=_;rw[v];rfl;have g:j<D.length:=by simpa using o
 rw[awY];split;rename_i e;subst e;exact T.aN f _ _ Zs;rename_i e;rw[T.bU f _ _ _ Zs e];exact n j g
def acz{id:Nat}{c:cL}(W:k<=1000000)(n w:Nat):∀(j i:Nat),i+j=k->∀(N:Nat),j<N->∀(M:cD),M.Ok->M.lim<=id->∀(u:By) (D:cP),u.length<1000000->(Bg c u).length=j+1->BkS M id D->D.length=k+1->∀(a7 a8 a9:j5),
   ∃u' D' b8 b9 M',I9 (λenv m k=>Kq (l9 KW w (n+1)) w none env m k) N (ai9 (iN k) fV (.str [c]) fV (.str u) tV (iN i) a7 a8 a9 (.slice id 0 (k+1) (k+1)) iZ nS) M []=some [⟨.exit 0,(ai9 (iN k) fV (.str [c]) fV (.str u') tV (iN k) fV b8 b9 (.slice id 0 (k+1) (k+1)) iZ nS),M',[],none⟩]∧bC id M M'∧BkS M' id D'∧D'.length=k+1∧D'.take k++[u']=D.take i++Bg c u:=by
 intro j;induction j with
 |zero=>
  intro i hi N Q M B a u D J o y b a7 a8 a9;obtain⟨N,rfl⟩:=sx N;obtain rfl:i=k:=Zs
  refine⟨u,D,a8,a9,M,?_,bC.refl B,y,b,?_⟩;rw[o7];simp[Kq,o9,A8,D8];rcases KY c u with⟨q,h1,h2,h3⟩|⟨h1,h3⟩;obtain⟨h,t,e⟩:=Pn c (u.drop (q+1));rw[h3,e]at o;simp at o;rw[h3]
 |succ j ih=>
  intro i hi N Q M B a u D J o y b a7 a8 a9;obtain⟨N,rfl⟩:=sx N;have F:i<k:=Zs
  rcases KY c u with⟨q,h1,h2,h3⟩|⟨h1,h3⟩;have I:=abn u c J n w M;rw[h1]at I;obtain⟨M2,V,A,X2⟩:=NT y B a (i:=i) Zs (u.take q);obtain⟨S,r⟩:∃d,d=i+1:=⟨_,rfl⟩;obtain⟨K,p⟩:∃d,d=q+1:=⟨_,rfl⟩;have L:=Z5 r Zs;have O:=Z5 p Zs;have P:kY (q:Int)=(q:Int):=Z7 Zs Zs;obtain⟨u',D',b8,b9,M',g,X,z,E,R⟩:=ih S Zs N Zs M2 X2.ok (by rw[X2.lim];exact a) (u.drop K) (D.set i (u.take q)) ZD (by rw[h3]at o;rw[p];simpa using o) A (by simpa using b) tV (iN q) fV;refine⟨u',D',b8,b9,M',?_,X2.trans X,z,E,?_⟩;have T:=λx hi ls env H C=>Sb (x:=x) (hi:=hi) (ls:=ls) (env:=env) (s:=u) (h:=q) H C Zs;have U:=λx lo ls env H C=>JZ (x:=x) (lo:=lo) (ls:=ls) (env:=env) (s:=u) (l:=K) H C Zs;have v:∀{β:Type} (f:Nat->Option β),idx (k+1) (iV (i:Int)) f=f i:=λf=>Z0 (k+1) i f Zs;have G:¬ (q:Int)<0:=Zs
  rw[o7,← g];simp[Kq,o9,A8,D8,F,I,G,L,O,P,T,U,v,V];rw[R,h3,r,List.take_set,p];have:i<(D.take (i+1)).length:=ZD
  rw[O7 Zs,avS _ _ ZD];simp[show min i D.length=i from by omega];rw[h3]at o;simp at o
def afU(s:By)(c:cL)(hs:s.length<1000000)(n o:Nat)(a0:s.length+1<=o)(O:m.Ok)(N:m.lim<=m.nx):
   ∃v m',l9 KW o (n+2) (.func 197) [.str s,.str [c],iZ,iV (-1)] m=some [⟨v,m'⟩]∧cE m m'∧xR m' v (strs (Bg c s)):=by
 obtain⟨K,Z⟩:=Tz c s;obtain⟨k,hk⟩:∃k,k=nI c s:=⟨_,rfl⟩;have J:=abo s c hs n o m;rw[← hk]at K Z J;obtain⟨k1,l⟩:∃d,d=k+1:=⟨_,rfl⟩;obtain⟨l1,H⟩:∃d,d=s.length+1:=⟨_,rfl⟩;have V:=Z5 l Zs;have W:=Z5 H Zs;have Y:=qR (a:=k1) (p:=k) Zs Zs;have pm:∀(x y:OF) (ls:cM) (env:T j5),x ls env=iV (k1:Int)->y ls env=iV (l1:Int)->pMm false x [y] ls env=some (iV (k1:Int)):=λx y ls env w I=>by rw[Ir w I,avy Zs]
 have mk:=λ(x y:OF) (ls:cM) (env:T j5) (nid:Nat) w I=>avC (z:=[.str []]) (x:=x) (y:=y) (ls:=ls) (env:=env) (nid:=nid) (a:=k1) w I Zs;obtain⟨M,h⟩:∃M,M=ext m [.cells 1 k1 (T.rep [.str []] k1 .e 0)]:=⟨_,rfl⟩;have E:cE m M:=by rw[h];exact o8 O _
 have hD:BkS M m.nx (List.replicate k1 []):=⟨by simp[h],T.rep [.str []] k1 .e 0,by rw[h,l8 O];simp,by have:=T.Ov [j5.str []] k1 .e 0 .e;simpa using this,λj F=>by
  have F:j<k1:=by simpa using F
  rw[T.Ow _ _ _ _ .e];simp[F]⟩
 obtain⟨P,D',b8,b9,M',g,X,B,G,L⟩:=acz (id:=m.nx) (k:=k) (c:=c) Zs n o k 0 Zs o Zs M E.ok (by rw[E.lim];exact N) s (List.replicate k1 []) hs K hD (by simp[l]) uV uV uV;rw[at7,O9]at L;obtain⟨M2,s2,q,X2⟩:=NT B X.ok (by rw[X.lim,E.lim];exact N) (i:=k) Zs P;have C:D'.set k P=Bg c s:=by
  rw[← L];have:D'=D'.take k++[D'[k]'Zs]:=by rw[← O7 Zs,← G,arO]
  conv=>lhs;rw[this]
  rw[avS _ _ ZD];simp[show min k D'.length=k from by omega]
 rw[C]at q;have r:∀{β:Type} (f:Nat->Option β),idx k1 (iV (k:Int)) f=f k:=λf=>Z0 k1 k f Zs;have Q:=λ(x b:OF) (ls:cM) (env:T j5) (w:x ls env=.slice m.nx 0 k1 k1) (hb:b ls env=(iN k1))=>Ws w hb M2.nx;have A:K6 M2.nx 1 (.slice m.nx 0 k1 k1) 0 (some k1)=some (.slice m.nx 0 k1 k1,none):=by show K6.known 1 0 m.nx 0 k1 k1=_;show bi (ble 0 k1) (bi (ble k1 k1) (some (j5.slice m.nx (bi (beq 0 k1) 0 (Nat.add 0 (Nat.mul 0 1))) (Nat.sub k1 0) (Nat.sub k1 0),(none:Option Y9))) none) none=_;rw[l7 (ahe k1),l7 (aA k1),show beq 0 k1=false from by rw[l];rfl,show Nat.mul 0 1=0 from rfl,show Nat.sub k1 0=k1 from rfl];rfl
 obtain⟨R,t,S,d3,U⟩:=q;have u:(Bg c s).length=k1:=Zs
 refine⟨.slice m.nx 0 k1 k1,M2,?_,?_,?_⟩;rw[en f197];have a1:¬ (k1:Int)=0:=Zs
 rw[← l]at g;rw[h]at g;simp at g;simp[f197,o9,J,V,W,Y,pm,mk,g,r,s2,Q,A];exact E.dO (X.trans X2) (aA _);refine⟨m.nx,0,k1,by rw[G7,u],by rw[G7];omega,R,.inr ⟨_,t,S,by rw[G7,P7];exact aA _,λi hi=>?_⟩⟩;have D:i<(Bg c s).length:=by rwa [G7]at hi
 rw[P7,U i D];simp[strs]
def acA(s:By)(c:cL)(hs:s.length<1000000)(n a:Nat)(b:s.length+1<=a)(e:m.Ok)(d:m.lim<=m.nx):
   ∃v m',l9 KW a (n+3) (.func 130) [.str s,.str [c]] m=some [⟨v,m'⟩]∧cE m m'∧xR m' v (strs (Bg c s)):=by
 obtain⟨v,m',g,E,h⟩:=afU s c hs n a b e d;have f:=λ{β:Type} (p:j5->β) q=>h.vs.aL p q;refine⟨v,m',?_,E,h⟩;rw[en f130];simp[f130,g,f]
variable {d:By}{t:cP}
def Wt(h:mP (d::t)=some k):∃w0 w1 w w3 w4,cA 32 d=[w0,w1,w,w3,w4]∧Lib.atoiAll w=.ok (k:Int)∧k<(d::t).length:=by unfold mP at h;simp only at h;split at h;rename_i w0 w1 w w3 w4 a;split at h;rename_i x b;split at h;rename_i c;cases h;exact⟨w0,w1,w,w3,w4,a,by rw[b];congr 1;omega,Zs⟩;cases h;cases h;cases h
def afV{c e w f g:By}(hs:cA 32 d=[c,e,w,f,g]){x:Int}(b:Lib.atoiAll w=.ok x)(h0:0<=x)(a:x<((d::t).length:Int)):mP (d::t)=some x.toNat:=by unfold mP;simp only[hs,b];rw[cg ⟨h0,a⟩]
def Wu(h:(cA 32 d).length≠5):mP (d::t)=none:=by unfold mP;simp only;split;rename_i a;rw[a]at h;simp at h;rfl
def CS{b c w e f:By}(hs:cA 32 d=[b,c,w,e,f])(h:∀x,Lib.atoiAll w=.ok x->¬ (0<=x∧x<((d::t).length:Int))):mP (d::t)=none:=by unfold mP;simp only[hs];split;rename_i x a;rw[aE (h x a)];rfl
def EA{no:Nat}(h:mP a=none):∀r,¬ Rec no a r:=λr b=>by rw[b.head]at h;cases h
def qj(c:cL):∀(s w:By),w∈cA c s->w.length<=s.length
 |[],w,h=>by simp[cA]at h;simp[h]
 |b::l,w,h=>by rw[cA]at h;split at h;rcases O4.1 h with rfl|h;simp;have:=qj c l w h;simp;omega;obtain⟨x,xs,e⟩:=mO c l;rw[e]at h;rcases O4.1 (show w∈(b::x)::xs from h)with rfl|h;have:=qj c l x (by rw[e];simp);simp;omega;have:=qj c l w (by rw[e];simp[h]);simp;omega
def aiQ(F:m.Ok)(D:m.lim<=m.nx)(hv:DkE m v ws)(hb:ws.length<=10000)(hw:∀w∈ws,w.length<=1000)(hz:Kn v∨∀k,mP ws=some k->k≠0)
   (hj:∀k,mP ws=some k->((ws.drop 1).take k).flatten.length<=16000) (no:Nat) (aj:no<=1000) (n J:Nat) (ab:20001<=J):
   (∃r m',l9 KW J (n+14) (.func 57) [(iN no),v] m=some [⟨.tuple [.agg r.f.cells,(iN ((L9 r))),tV],m'⟩]∧cE m m'∧J9 m' r∧r.short∧Rec no ws r)∨
   (∃m',l9 KW J (n+14) (.func 57) [(iN no),v] m=some [⟨.tuple [.agg zr,iZ,fV],m'⟩]∧cE m m'∧∀r,¬ Rec no ws r):=by
 have g:=hv.vs.len;rw[G7]at g;have E0:=o8 F [j6 zr];have g0:(ext m [j6 zr]).get m.nx=some (j6 zr):=by rw[l8 F];rfl
 have lim:∀{M:cD},cE m M->M.lim<=M.nx:=λE=>by rw[E.lim];exact dn D E.nx
 have j:∀{M:cD},cE (ext m [j6 zr]) M->∃N,(∀{β:Type} (k:cD->Option β),storeAt M m.nx 0 zr k=k N)∧N.get m.nx=some (j6 zr)∧cE m N:=λ{M} E=>by have hn:=E.nx;obtain⟨N,A,q,X⟩:=fU (vs:=zr) E.ok (by simp at hn;omega) (by rw[E.lim,E0.lim];exact D) ((E.old m.nx ZZ).trans g0) rfl ZS rfl;exact⟨N,A,q,(E0.trans E).dO X (aA _)⟩
 have al:zr.length=32:=rfl;rw[en f57];cases ws with
 |nil=>refine .inr ⟨ext m [j6 zr],?_,E0,EA rfl⟩;simp[f57,ay F D,D8,g]
 |cons d t=>
  have s:¬ ((t.length:Int)+1=0):=Zs
  have ah:t.length+1<=10000:=by simpa using hb
  by_cases hn2:200<no;refine .inr ⟨ext m [j6 zr],?_,E0,λr G=>by have:=G.1;omega⟩;have l:(200:Int)<(no:Int):=Zs
  simp[f57,ay F D,D8,g,s,l];have l:¬ (200:Int)<(no:Int):=Zs
  have dk:=hv.dk ZZ;obtain⟨id,am,L,_,Q⟩:=(hv.ext E0).vs.at0 (x:=.str d) (xs:=strs t);simp at L;obtain⟨v1,M1,S,E1,P⟩:=acA d 32 (by have:=hw d ZZ;omega) (n+10) J (by have:=hw d ZZ;omega) E0.ok (lim E0);rw[KT]at P;have H:=P.vs.len;rw[G7]at H;have z:=λ{β:Type} (p:j5->β) q=>P.vs.aL p q;have E01:=E0.trans E1;by_cases h5:(cA 32 d).length=5;obtain⟨w0,w1,w,w3,w4,Z⟩:∃w0 w1 w w3 w4,cA 32 d=[w0,w1,w,w3,w4]:=by
   match h:cA 32 d,h5 with
   |[a,b,c,d,e],_=>exact⟨a,b,c,d,e,rfl⟩
  rw[Z]at H P;simp at H;obtain⟨af,ag,R,_,O⟩:=P.vs.at (i:=2) (by rw[G7];simp);have O:ld1 (M1.get af) ag=some (.str w):=O;simp at R;have ak:w.length<=d.length:=qj 32 d w (by rw[Z];simp);obtain⟨x,e,M2,W,E2,Y⟩:=Xh w (by have:=hw d ZZ;omega) (n+12) J M1 E01.ok;have E02:=E01.trans E2;have X2:=E1.trans E2;rcases Y with⟨hx,rfl⟩|⟨hx,p,rfl⟩;by_cases hx0:x<0;obtain⟨N,A,C,EN⟩:=j X2;refine .inr ⟨N,?_,EN,EA (CS Z λy V=>by rw[hx]at V;cases V;omega)⟩;simp[f57,ay F D,D8,g,s,l,L,Q,S,z,H,R,O,W,hx0,A,C];by_cases hxl:(t.length:Int)+1<=x;obtain⟨N,A,C,EN⟩:=j X2;refine .inr ⟨N,?_,EN,EA (CS Z λy V=>by rw[hx]at V;cases V;simp;omega)⟩;simp[f57,ay F D,D8,g,s,l,L,Q,S,z,H,R,O,W,hx0,hxl,A,C];obtain⟨k,rfl⟩:∃k:Nat,x=(k:Int):=⟨x.toNat,Zs⟩;have hk:mP (d::t)=some k:=by have:=afV Z hx Zs (show(k:Int)<((d::t).length:Int) by simp;omega);simpa using this
  have ai:k<t.length+1:=Zs
  have a9:=dk.ext E02;have K:Kn v∨1<(d::t).length:=by rcases hz with hz|hz;exact .inl hz;have:=hz k hk;exact .inr ZD
  obtain⟨vm,cm,dm,_,_⟩:=Wq a9 1 k ZZ ZD K M2.nx;have a2:=hj k hk;have j3:=aee dm [] ZD (by rw[CR];omega) (n+12) J;rw[CR]at j3;have I:=λ(x a b:OF) (ls:cM) (env:T j5) (hx:x ls env=v) (ha:a ls env=iN 1) (hb:b ls env=iN (1+k))=>(acw hx ha hb M2.nx).trans (cm (some (1+k)) (.inl rfl));obtain⟨q,hq⟩:∃q,q=k+1:=⟨_,rfl⟩;have e3:=Z5 hq Zs;rw[show 1+k=q from by omega]at I;generalize hs3:(((d::t).drop 1).take k).flatten=s3 at a2 j3;have o:∀r,Rec no (d::t) r->kX s3 r:=λr G=>by have h:=G.head;rw[hk]at h;have h:=rW h;have hb:=Tv G.2;rw[← h]at hb;exact⟨G.2.valid,by rw[← hs3,← hb];rfl⟩
  have a6:=lim E02;have ac:=E02.ok;rcases afm ac a6 s3 a2 n J ab with⟨r,M3,g3,E3,G,la,lb,lc,ht⟩|⟨M3,g3,E3,hno3⟩;have E03:=E02.trans E3;have u:=E03.ok;have B:=lim E03;have E4:=o8 u [j6 r.f.cells,Y9.void];have ho:=G.one;have E04:=E03.trans E4;have a4:=G.ext E4;obtain⟨v4,M5,g4,E5,h4⟩:=abU E04.ok (lim E04) a4 ht.1 (no:Int) (by unfold Sm;omega) (n+8) J Zs;have E05:=E04.trans E5;obtain⟨vp,cp,dp,_,_⟩:=Wq (dk.ext E05) 0 q ZZ ZD (.inr ZZ) (M3.nx+1);have a0:=λ(x b:OF) (ls:cM) (env:T j5) (hx:x ls env=v) (hb:b ls env=iN q)=>(Ws hx hb (M3.nx+1)).trans (cp (some q) (.inl (by rw[P7])));have ae:(iQ (no:Int) (C8 r)).length<=10000:=by have:=gI _ (C8 r) (aA _);have:=eF ht.1;rw[dR];omega
  have g5:=afP h4 dp.vs ae (n+12) J Zs;rw[W9]at g5;have q4:M5.get M3.nx=some (j6 r.f.cells):=by rw[E5.old _ ZZ,l8 u];rfl
  have a8:M5.get (M3.nx+1)=some .void:=by rw[E5.old _ ZZ,r9 u];rfl
  have X5:cE (ext m [j6 zr]) M5:=X2.trans (E3.trans (E4.trans E5));have a7:=λ{β:Type} (p:j5->β) q=>h4.aL p q;by_cases heq:iQ (no:Int) (C8 r)=(d::t).take q;have a5:L9 r=q:=by have:=ci List.length heq;rw[dR]at this;simp at this;unfold L9;omega
  have ad:=X5.nx;obtain⟨N,A,C,X⟩:=fU (vs:=r.f.cells) X5.ok (by simp at ad;omega) (by rw[X5.lim,E0.lim];exact D) ((X5.old m.nx ZZ).trans g0) (by rw[D6.len];rfl) (by rw[D6.len];omega) G.one;have EN:=(E0.trans X5).dO X (aA _);rw[co heq]at g5;refine .inl ⟨r,N,?_,EN,(a4.ext E5).keep (uP rfl ((X5.old m.nx ZZ).trans g0) X),⟨la,lb,lc⟩,Rec.of Zs ht.1 (hq▸heq)⟩;rw[a5];clear K o j;simp[f57,ay F D,D8,dh u B,g,s,l,L,Q,S,z,H,R,O,W,hx0,hxl,e3,I,j3,g3,g4,a0,g5,q4,a8,a7,A,C,ho,AP,D6.len];obtain⟨N,A,C,EN⟩:=j X5;rw[decide_eq_false heq]at g5;refine .inr ⟨N,?_,EN,λr' U=>heq ?_⟩;clear K o j;simp[f57,ay F D,D8,dh u B,g,s,l,L,Q,S,z,H,R,O,W,hx0,hxl,e3,I,j3,g3,g4,a0,g5,a8,a7,A,C,ho,AP,D6.len];have P:=XK U.2;have Y:=U.head;rw[hk]at Y;have Y:=rW Y;rw[← Y,← hq]at P;rw[P,ht.2,(o r' U).2];obtain⟨N,A,C,EN⟩:=j (X2.trans (E3.trans (o8 (E02.trans E3).ok [j6 zr,Y9.void])));have E03:=E02.trans E3;have u:=E03.ok;have B:=lim E03;refine .inr ⟨N,?_,EN,λr G=>hno3 r (o r G)⟩;clear K o j;simp[f57,ay F D,D8,dh u B,g,s,l,L,Q,S,z,H,R,O,W,hx0,hxl,e3,I,j3,g3,A,C,AP];obtain⟨N,A,C,EN⟩:=j X2;refine .inr ⟨N,?_,EN,EA (CS Z λy V=>cj V (hx y))⟩;simp[f57,ay F D,D8,g,s,l,L,Q,S,z,H,R,O,W,A,C];obtain⟨N,A,C,EN⟩:=j E1;refine .inr ⟨N,?_,EN,EA (Wu h5)⟩;have aa:¬ (((cA 32 d).length:Nat):Int)=5:=Zs
  simp[f57,ay F D,D8,g,s,l,L,Q,S,z,H,aa,A,C]
def EB(a:M.Ok){W:cP}(b:W≠[]):jH M.nx (M.new (.cells 1 (strs W).length (T.ofList ((strs W).map ([·]))))) (.sliceU M.nx 0 (strs W).length 1) W:=by rw[G7];refine .inr ⟨M.nx,_,W.length,aA _,ZZ,b,rfl,by rw[cD.Q5 a,cg rfl],?_,aA _,λi c=>by rw[T.bV];simp[strs,c]⟩;have:=T.kL ((strs W).map ([·]));simpa[G7]using this
def vM(a b:cP):strs (a++b)=strs a++strs b:=by simp[strs]
variable {lo:Nat}
def ah5{bytes:Nat}{x:j5}{l:cP}(z:m.Ok)(K:m.lim<=lo)(O:lo<=m.nx)(h:jH lo m v l)(M:dV m x (strs xs))(f:xs≠[])(hb:l.length+xs.length<=100000)(u:1<=bytes∧bytes<=1000):
   ∃v' m',(∀(s y:OF) (cf:G6) (ls:cM) (env:T j5),s ls env=v->y ls env=x->lu 1 bytes s y cf ls env m=some [⟨v',m'⟩])∧jH m.nx m' v' (l++xs)∧m'.Ok∧m.nx<=m'.nx∧m'.lim=m.lim∧
    (∀i,i<m.nx->(∀o n e,v≠.sliceU i o n e)->m'.get i=m.get i):=by
 have w:∀(o:pQ),jS m 1 bytes xs.length (strs xs) v=o->∀(s y:OF) (cf:G6) (ls:cM) (env:T j5),s ls env=v->y ls env=x->lu 1 bytes s y cf ls env m=o:=λo P s y cf ls env R S=>by show ob (AM.lenOf (y ls env)) (λn=>ob (Z8 m 1 n (y ls env)) λG=>jS m 1 bytes n G (s ls env))=_;have H:=M.lenOf;have I:=M.read;rw[G7]at H I;rw[S,R,H,I6,I,I6];exact P
 obtain⟨k,C⟩:∃k,xs.length=k+1:=⟨xs.length-1,by have:=P6.2 f;omega⟩;have q:l++xs≠[]:=λe=>f (List.append_eq_nil_iff.1 e).2;have J:=rX xs;rcases h with⟨rfl,rfl⟩|⟨id,t,c,i1,i2,i3,rfl,i4,i5,i6,i7⟩;rw[O9];obtain⟨g,_⟩:=nH (lo:=m.nx) z (aA _) (strs xs) J;refine⟨_,_,w _ ?_,EB z f,cD.Ok.new z _,ZZ,ZZ,λi A _=>by rw[cD.Q5 z,aE Zs]⟩;rw[← g];show IY m 1 bytes xs.length (strs xs)=_;rw[G7,C];show bi (big (k+1) bytes 1) _ none=_;rw[vK (by simp at hb;omega) u];rfl;have a:(m.set id .dead).Ok:=cD.Ok.set z i2 _;have N:=P6.2 i3;have p:ble m.lim id=true:=l7 Zs;have d:∀b,∀i,i<m.nx->(∀o n e,j5.sliceU id 0 l.length 1≠.sliceU i o n e)->((m.set id .dead).new b).get i=m.get i:=λb i A f=>by have:i≠id:=λe=>f 0 l.length 1 (by rw[e]);rw[cD.Q5 a,aE ZD,cD.R9 z i2,aE this]
 by_cases hone:xs.length=1;obtain⟨y,rfl⟩:∃y,xs=[y]:=avQ.1 hone;refine⟨.sliceU m.nx 0 (l.length+1) 1,(m.set id .dead).new (.cells 1 (l.length+1) (t.put l.length [.str y])),w _ ?_,?_,cD.Ok.new a _,ZZ,ZZ,d _⟩;show ng m 1 bytes 1 [.str y] id 0 l.length 1=_;show bi (beq 1 1) (bi (big (l.length+1) bytes 1) (bi (ble m.lim id) (bi (H8 [j5.str y]) (uS (m.get id) _ _) none) none) none) none=_;rw[vK (by simpa using hb) u,p,i4];show bi (bi (beq 1 1) (bi (beq 0 0) (bi (ble l.length l.length) (bi (beq 1 1) (beq 1 1) false) false) false) false) _ _=_;rw[show ble l.length l.length=true from l7 (aA _)];rfl;have B:∃c'',l.length+1<=c''∧T.Ok (t.put l.length [.str y]) c'':=by
  by_cases hc:l.length<c;exact⟨c,hc,T.Ok.put i5 _ _ hc⟩;obtain rfl:c=l.length:=Zs
  exact⟨l.length+1,aA _,T.Ok.push i5 _⟩
 obtain⟨c'',U,V⟩:=B;refine .inr ⟨m.nx,_,c'',aA _,ZZ,q,ZZ,by rw[cD.Q5 a];simp,V,by simpa using U,λi A=>?_⟩;by_cases hil:i=l.length;subst hil;rw[T.aN i5 _ _ Zs];simp;have j:i<l.length:=by simp at A;omega
 rw[T.bU i5 _ _ _ Zs (aqR hil),i7 i j];simp[ai8,j];obtain⟨g,_⟩:=nH (lo:=m.nx) a ZZ (strs (l++xs)) (rX _);have L:=EB a q;have E:(m.set id .dead).nx=m.nx:=ZZ
 rw[E]at L g;refine⟨_,_,w _ ?_,L,cD.Ok.new a _,ZZ,ZZ,d _⟩;have F:J7 1 l.length t l.length 0=some (strs l):=by
  have:=jL (rs:=1) (n:=l.length) (cF:=t) (l:=(strs l).map ([·])) (λr Q=>by
   obtain⟨x,_,rfl⟩:=adg.1 Q;rfl) (λi A=>by
   have D:i<l.length:=by simpa[strs]using A
   rw[i7 i D];simp[strs]) (by simp[strs]) l.length 0 (by simp[strs])
  rwa [ahk,ah3,W9,zG]at this
 rw[← g];show ng m 1 bytes xs.length (strs xs) id 0 l.length 1=_;unfold ng;rw[C];show bi (beq 1 1) (bi (big (l.length+(k+1)) bytes 1) (bi (ble m.lim id) (bi (H8 (strs xs)) (uS (m.get id) _ _) none) none) none) none=_;rw[vK Zs u,p,J,i4];show bi (bi (beq 1 1) (bi (beq 0 0) (bi (ble l.length l.length) (bi (beq (k+1) 1) (beq (len' (strs xs)) 1) false) false) false) false) _ (ob (J7 1 l.length t (Nat.mul l.length 1) 0) λd=>grown (m.set id .dead) 1 (Nat.add l.length (k+1)) (dK d (strs xs)))=_;rw[show ble l.length l.length=true from l7 (aA _),show beq (k+1) 1=false from aa0.2 λe=>hone (by rw[C];exact nA e),
  show Nat.mul l.length 1=l.length from ahk _,show Nat.add l.length (k+1)=(strs (l++xs)).length from by rw[G7,aaf,C];rfl]
 show ob (J7 1 l.length t l.length 0) (λd=>grown (m.set id .dead) 1 (strs (l++xs)).length (dK d (strs xs)))=_;rw[F,I6,V9,vM]
structure aB(lo:Nat)(m:cD)(p:Nat)(cw:Int)(lv fv:j5)(D:cP)(L:cN):Prop where
 at_:m.get p=some (j6 [lv,iV cw,fv])
 lo_:lo<=p
 pn:p<m.nx
 lim:m.lim<=lo
 list:jH lo m lv D
 facts:cu lo 32 m fv (cellsOf L)
 w:∀r,r∈L->J9 m r
 sh:∀r,r∈L->r.short
def aB.NU{cw:Int}(h:aB lo m p cw lv fv D L):lo<=m.nx:=dn h.lo_ (aki h.pn)
def aB.sG{cw:Int}(h:aB lo m p cw lv fv D L):m.lim<=m.nx:=dn h.lim h.NU
def aB.ext{a:cD}{cw:Int}(h:aB lo m p cw lv fv D L)(e:cE m a):aB lo a p cw lv fv D L:=
 ⟨(e.old p h.pn).trans h.at_,h.lo_,aP h.pn e.nx,by rw[e.lim];exact h.lim,h.list.ext e,h.facts.ext e,λr b=>(h.w r b).ext e,h.sh⟩
def aB.good{cw:Int}(h:aB lo m p cw lv fv D L):∀r,r∈L->r.Good:=λr a=>(h.w r a).good (h.sh r a)
def aV(h:cu lo 32 m v (cellsOf L)):au m v L:=by
 have a:(cellsOf L).length=L.length:=by simp[cellsOf]
 rcases h with⟨rfl,h⟩|⟨id,h1,h2,h3,h4,h5,h6⟩;have:L=[]:=U1.1 (by rw[← a,h];rfl);subst this;exact .inl ⟨rfl,rfl⟩;obtain⟨_,e,c,t,j,f,b,k,l,g⟩:=h4;rw[a]at h6 b;refine .inr ⟨id,?_,h2,.inr ⟨c,t,f,b,λi d=>?_⟩⟩;rcases h6 with h6|h6;exact .inl ⟨_,h6⟩;exact .inr h6;rw[g i (by rw[a];exact d)];simp[cellsOf]
structure FrR(m m':cD)(p:Nat)(lv fv:j5):Prop where
 nx:m.nx<=m'.nx
 lim:m'.lim=m.lim
 ok:m'.Ok
 old:∀i,i<m.nx->i≠p->(∀o n e,lv≠.sliceU i o n e)->(∀o n e,fv≠.sliceU i o n e)->m'.get i=m.get i
def aB.sl{lo:Nat}{m j:cD}{p:Nat}{cw:Int}{lv fv:j5}{D:cP}{L:cN}(h:aB lo m p cw lv fv D L)(f:FrR m j p lv fv){v:j5}{xs:cQ}(g:U5 m v xs):U5 j v xs:=by rcases g with g|⟨id,h1,h2,h3⟩;exact .inl g;refine .inr ⟨id,h1,aP h2 f.nx,?_⟩;rcases h3 with h3|⟨n,cF,b,h5,h6⟩;exact .inl h3;by_cases hx:xs=[];exact .inl hx;have r:=P6.2 hx;refine .inr ⟨n,cF,(f.old id.1 h2 ?_ ?_ ?_).trans b,h5,h6⟩;intro e;have d:=h.at_;rw[← e,b]at d;have d:=rW d;have d:Y9.cells 1 n cF=.cells 3 1 _:=d;injection d with e3;cases e3;intro o k e a;rcases h.list with⟨q,_⟩|⟨i,t,c,i1,i2,i3,q,i4,i5,i6,i7⟩;rw[q]at a;cases a;rw[q]at a;injection a with a;rw[← a,i4]at b;have b:=rW b;injection b with _ e1 d;have l:=h6 0 r;rw[← d,adh,i7 id.2 Zs]at l;cases l;intro o k e a;rcases h.facts with⟨q,_⟩|⟨i,i1,i2,i3,⟨_,hrl,c,t,c',q1,q2⟩,i5,i6⟩;rw[q]at a;cases a;rcases i6 with q|q;rw[q]at a;cases a;rw[q]at a;injection a with a;rw[← a,q1]at b;have b:=rW b;injection b with e3;cases e3
def aB.XO{c:cD}{cw:Int}(h:aB lo m p cw lv fv D L)(f:FrR m c p lv fv){r:FR}(k:J9 m r):J9 c r:=⟨h.sl f k.a,h.sl f k.b,h.sl f k.l,k.ga,k.gb,k.nb⟩
variable {rs:Nat}
def mQ{a:cD}{l:List cM}(h:cu lo rs m v l)(hn:m.nx<=a.nx)(b:∀i,i<m.nx->((∃o n e,v=.sliceU i o n e)∨∃o n e,v=.slice i o n e)->a.get i=m.get i):cu lo rs a v l:=by rcases h with h|⟨id,h1,h2,h3,h4,h5,h6⟩;exact .inl h;refine .inr ⟨id,h1,aP h2 hn,h3,h4.same (b id h2 ?_),h5,h6⟩;rcases h6 with h6|h6;exact .inr ⟨_,_,_,h6⟩;exact .inl ⟨_,_,_,h6⟩
def vQ{a:cD}{l:cP}(h:jH lo m v l)(hn:m.nx<=a.nx)(b:∀i o n e,i<m.nx->v=.sliceU i o n e->a.get i=m.get i):jH lo a v l:=by rcases h with h|⟨id,t,c,h1,h2,h3,h4,h5,h6⟩;exact .inl h;exact .inr ⟨id,t,c,h1,aP h2 hn,h3,h4,(b id _ _ _ h2 h4).trans h5,h6⟩
def rA{a:Nat}{l:cP}(h:jH lo m v l)(b:a<=lo):jH a m v l:=by rcases h with h|⟨id,t,c,h1,h2⟩;exact .inl h;exact .inr ⟨id,t,c,dn b h1,h2⟩
variable {o:Nat}
def lT{l:cP}(h:jH lo m v l){e:Nat}(a:v=.sliceU i o n e):lo<=i∧i<m.nx∧∃k t,m.get i=some (.cells 1 k t):=by rcases h with⟨h,_⟩|⟨id,t,c,h1,h2,h3,h4,h5,h6⟩;rw[h]at a;cases a;rw[h4]at a;injection a with a;subst a;exact⟨h1,h2,_,t,h5⟩
def U9{l:List cM}(h:cu lo rs m v l){e:Nat}(a:v=.sliceU i o n e∨v=.slice i o n e):lo<=i∧i<m.nx∧∃k t,m.get i=some (.cells rs k t):=by
 rcases h with⟨h,_⟩|⟨id,h1,h2,h3,⟨_,hl,c,t,c',q,_⟩,h5,h6⟩;rw[h]at a;rcases a with a|a<;>cases a
 have:i=id:=by
  rcases h6 with h6|h6<;>rw[h6]at a<;>rcases a with a|a
  cases a;injection a with a;exact a.symm;injection a with a;exact a.symm;cases a
 subst this;exact⟨h1,h2,c,t,q⟩
def afW{a:Nat}{l:List cM}(h:cu lo rs m v l)(b:∀i o n e,(v=.sliceU i o n e∨v=.slice i o n e)->a<=i):cu a rs m v l:=by rcases h with h|⟨id,h1,h2,h3,h4,h5,h6⟩;exact .inl h;refine .inr ⟨id,?_,h2,h3,h4,h5,h6⟩;rcases h6 with h6|h6;exact b _ _ _ _ (.inr h6);exact b _ _ _ _ (.inl h6)
variable {b:Nat}
def lJ{a c:Nat}{t d:T cM}{x:Option Y9}(h:x=some (.cells a k t))(h':x=some (.cells b c d)):a=b:=by rw[h]at h';injection rW h'
def aB.ark{cw:Int}(h:aB lo m p cw lv fv D L):∀o n e,lv≠.sliceU p o n e:=λo n e a=>by obtain⟨_,_,k,t,q⟩:=lT h.list a;have:=lJ (b:=3) q h.at_;omega
def aB.arl{cw:Int}(h:aB lo m p cw lv fv D L):∀o n e,fv≠.sliceU p o n e:=λo n e a=>by obtain⟨_,_,k,t,q⟩:=U9 h.facts (.inl a);have:=lJ (b:=3) q h.at_;omega
def aB.acB{cw:Int}(h:aB lo m p cw lv fv D L){e c a:Nat}(d:lv=.sliceU i o n e)(f:fv=.sliceU i c b a∨fv=.slice i c b a):False:=by obtain⟨_,_,k,t,q⟩:=lT h.list d;obtain⟨_,_,j,l,g⟩:=U9 h.facts f;have:=lJ q g;omega
def Wv{cw:Int}(h:aB lo m p cw lv fv D L):∀o n e,fv≠.slice p o n e:=λo n e a=>by obtain⟨_,_,k,t,q⟩:=U9 h.facts (.inr a);have:=lJ (b:=3) q h.at_;omega
def afX{cw:Int}(h:aB lo m p cw lv fv D L)(G:m.Ok){x:j5}(J:dV m x (strs xs))(t:xs≠[])(hb:D.length+xs.length<=100000)(n B:Nat):
   ∃m' lv',l9 KW B (n+1) (.func 135) [.ptr p 0,x] m=some [⟨.tuple [],m'⟩]∧aB lo m' p cw lv' fv (D++xs) L∧FrR m m' p lv fv∧jH m.nx m' lv' (D++xs):=by
 obtain⟨l,M1,C,d,q,k,j,b⟩:=ah5 (bytes:=16) G h.lim h.NU h.list J t hb ⟨Zs,Zs⟩;have K:M1.get p=some (j6 [lv,iV cw,fv]):=(b p h.pn h.ark).trans h.at_;have y:=aP h.pn k;have u:D8 l=true:=d.D8;obtain⟨N,M,z,X⟩:=iy (off:=0) q y (by rw[j];exact dn h.lim h.lo_) K ZZ (v:=l) u;have z:N.get p=some (j6 [l,iV cw,fv]):=z;have f:jH m.nx N l (D++xs):=vQ d X.nx λi o n e g a=>X.old i g (by have:=(lT d a).1;have:=h.pn;omega);have c:FrR m N p lv fv:=⟨dn k X.nx,by rw[X.lim,j],X.ok,λi g s E _=>(X.old i Zs s).trans (b i g E)⟩;have F:cu lo 32 N fv (cellsOf L):=mQ h.facts c.nx λi g a=>by refine(X.old i Zs ?_).trans (b i g λo n e A=>?_);intro e;subst e;rcases a with⟨o,n,e,a⟩|⟨o,n,e,a⟩;exact h.arl _ _ _ a;exact Wv h _ _ _ a;rcases a with⟨o,n,e,a⟩|⟨o,n,e,a⟩;exact h.acB A (.inl a);exact h.acB A (.inr a)
 refine⟨N,l,?_,⟨z,h.lo_,aP h.pn c.nx,by rw[c.lim];exact h.lim,rA f h.NU,F,λr I=>h.XO c (h.w r I),h.sh⟩,c,f⟩;have H:=h.at_;rw[en f135];simp[f135,H,C,M,d.aL,d.cells]
def Ac{l:List cM}(h:mV m rs v l)(n:Nat):bg (n+1) v v=true:=by have b:∀k,beq k k=true:=λk=>ah6 k;rcases h with⟨rfl,_⟩|⟨id,o,⟨c,rfl,_⟩|rfl,_⟩;rfl;show bi (beq id id) (bi (beq (o*rs) (o*rs)) (bi (beq l.length l.length) (beq c c) false) false) false=true;rw[b,b,b,b];rfl;show bi (beq id id) (bi (beq (o*rs) (o*rs)) (bi (beq l.length l.length) (beq rs rs) false) false) false=true;rw[b,b,b,b];rfl
def Cp.cn{r c:FR}(h:Cp r c):c.cn=r.cn:=by obtain⟨d,g,i,e⟩:=h.f;unfold FR.cn;rw[e,h.a,h.b,h.l]
def Ww{cw:Int}(h:aB lo m p cw lv fv D L)(T:m.Ok){r:FR}(K:J9 m r)(hs:r.short)(c:r.valid=true)(hL:L.length<=1000)(hD:D.length<=50000)(n O:Nat)(a4:20001<=O):
   ∃m' lv' fv' r',l9 KW O (n+6) (.func 59) [.ptr p 0,.agg r.f.cells] m=some [⟨.tuple [],m'⟩]∧aB lo m' p cw lv' fv' (D++iQ ((L.length+1:Nat):Int) (C8 r)) (L++[r'])∧FrR m m' p lv fv∧Cp r r'∧
    jH m.nx m' lv' (D++iQ ((L.length+1:Nat):Int) (C8 r))∧cu m.nx 32 m' fv' (cellsOf (L++[r'])):=by
 have hl:=h.sG;have ab:∀{M:cD},cE m M->M.lim<=M.nx:=λE=>by rw[E.lim];exact dn hl E.nx
 have E0:=o8 T [j6 r.f.cells,Y9.void];have ho:=K.one;obtain⟨r',M1,g1,E1,g,P⟩:=Wm E0.ok (ab E0) (K.ext E0) hs (n+3) O Zs;have E01:=E0.trans E1;have n1:=E1.nx;have q1:M1.get m.nx=some (j6 r.f.cells):=by rw[E1.old _ ZZ,l8 T];rfl
 have q2:M1.get (m.nx+1)=some .void:=by rw[E1.old _ ZZ,r9 T];rfl
 have q3:=(E01.old p h.pn).trans h.at_;have B:m.nx+1<M1.nx:=by simp at n1;omega
 obtain⟨M2,q⟩:∃M,M=M1.set (m.nx+1) (j6 r'.f.cells):=⟨_,rfl⟩;have E02:cE m M2:=by rw[q];exact E01.set B Zs _
 have Q:M2.get (m.nx+1)=some (j6 r'.f.cells):=by rw[q,cD.R9 E01.ok B,cg rfl]
 have S:∀i,i<M1.nx->i≠m.nx+1->M2.get i=M1.get i:=λi _ G=>by rw[q,cD.R9 E01.ok B,aE G]
 have F:M2.nx=M1.nx:=by rw[q];simp
 have hk:∀{v:j5} {xs:cQ},U5 M1 v xs->U5 M2 v xs:=λc=>by rcases c with c|⟨id,j,I,h3⟩;exact .inl c;refine .inr ⟨id,j,by rw[F];exact I,?_⟩;rcases h3 with h3|⟨n,cF,J,h5⟩;exact .inl h3;exact .inr ⟨n,cF,(S id.1 I (λe=>by rw[e,q2]at J;cases J)).trans J,h5⟩
 have a7:J9 M2 r':=⟨hk g.a,hk g.b,hk g.l,g.ga,g.gb,g.nb⟩;have R2:=h.ext E02;have a9:mV M2 32 (.slice (m.nx+1) 0 1 1) [r'.f.cells]:=.inr ⟨m.nx+1,0,.inl ⟨1,ZZ,ZZ⟩,by rw[F];exact B,.inr ⟨1,.nd .e r'.f.cells .e,by
  rw[Q];show some (Y9.cells (len' r'.f.cells) 1 (.nd .e r'.f.cells .e))=_;rw[K7,D6.len],ZZ,λr K=>by simp at K;rw[K,D6.len],λi y=>by
  obtain rfl:i=0:=by simpa using y
  rfl⟩⟩
 have a5:=g.one;obtain⟨fv',M3,ga,d,F3,t⟩:=Ik (bytes:=304) E02.ok R2.lim R2.NU Zs R2.facts a9 (by rw[D6.len]) a5 (by simp[cellsOf];omega) ⟨Zs,Zs⟩;have a3:cellsOf L++[r'.f.cells]=cellsOf (L++[r']):=by simp[cellsOf]
 rw[a3]at d;have n3:M2.nx<=M3.nx:=F3.nx;have l3:M3.lim=m.lim:=F3.lim.trans E02.lim;have q4:M3.get p=some (j6 [lv,iV cw,fv]):=(t p R2.pn h.arl).trans R2.at_;have a6:=d.slice.D8;obtain⟨N,s1,W,X⟩:=iy (off:=2) F3.ok (aP R2.pn n3) (by rw[l3];exact dn h.lim h.lo_) q4 ZZ (v:=fv') a6;have W:N.get p=some (j6 [lv,iV cw,fv']):=W;have nN:M2.nx<=N.nx:=dn n3 X.nx;have k:FrR M2 N p lv fv:=⟨nN,by rw[X.lim,F3.lim],X.ok,λi y A _ I=>(X.old i Zs A).trans (t i y I)⟩;have x:cu M2.nx 32 N fv' (cellsOf (L++[r'])):=mQ d X.nx λi y c=>X.old i y λe=>by subst e;have ac:=R2.pn;rcases c with⟨o,n,e,c⟩|⟨o,n,e,c⟩;have:=(U9 d (.inl c)).1;omega;have:=(U9 d (.inr c)).1;omega
 have a1:jH lo N lv D:=vQ R2.list nN λi o n e y c=>(X.old i Zs (λe=>by subst e;exact h.ark _ _ _ c)).trans (t i y λo' n' e' hf=>h.acB c (.inl hf));have ae:=E02.nx;have R3:aB lo N p cw lv fv' D (L++[r']):=⟨W,h.lo_,aP R2.pn nN,by rw[X.lim,l3];exact h.lim,a1,x.down (by rw[F];exact dn h.NU Zs),λs H=>by
   rcases LA.1 H with j|j;exact R2.XO k (R2.w s j);simp at j;rw[j];exact R2.XO k a7,λs H=>by
   rcases LA.1 H with j|j;exact h.sh s j;simp at j;rw[j];exact P.short hs⟩
 have q6:N.get m.nx=some (j6 r.f.cells):=by
  have G:m.nx≠p:=by have:=h.pn;omega
  rw[k.old m.nx (by rw[F];omega) G (λo n e c=>by have:=(lT h.list c).2.1;omega) (λo n e c=>by have:=(U9 h.facts (.inl c)).2.1;omega),S _ Zs Zs];exact q1
 have a8:J9 N r:=R2.XO k (K.ext E02);obtain⟨v4,M4,g4,E4,J⟩:=abU X.ok (R3.sG) a8 c ((L.length+1:Nat):Int) (by unfold Sm;omega) n O a4;have R4:=R3.ext E4;have ad:(iQ ((L.length+1:Nat):Int) (C8 r)).length<=10000:=by have:=gI _ (C8 r) (aA _);have:=eF c;rw[dR];omega
 obtain⟨M5,lv',g5,R5,F5,a0⟩:=afX R4 E4.ok J (by simp[iQ]) Zs (n+4) O;have n4:=E4.nx;have Y:FrR m M5 p lv fv:=⟨by have:=F5.nx;omega,by rw[F5.lim,E4.lim,X.lim,l3],F5.ok,λi y A j I=>by
  rw[F5.old i Zs A j (λo n e c=>by have:=(U9 x (.inl c)).1;omega),E4.old i Zs,k.old i Zs A j I];exact E02.old i y⟩
 have Z:cu m.nx 32 M5 fv' (cellsOf (L++[r'])):=by refine afW R5.facts λi o n e c=>?_;have:=(U9 x c).1;omega
 refine⟨M5,lv',fv',r',?_,R5,Y,P,rA a0 Zs,Z⟩;have hp:=h.at_;have R:xC fv' (some (j5.int .i64 0)) (λ_ _ n _=>some (iV n)) (λ_ _ n _=>some (iV n))=some (iN (L.length+1)):=by have:=(aV x).len;simpa using this
 have a2:∀z V U u C,List.length z=32->J2 32 1 z V U u C=ob (lay V U u z) λcells=>if cells.length=32 then some (.slice C 0 1 1,some (j6 cells))else none:=λz V U u C h=>I5 32 z V U u C h
 rw[show((L.length+1:Nat):Int)=(L.length:Int)+1 from rfl]at g4;have q0:(ext m [j6 r.f.cells,Y9.void]).get p=some (j6 [lv,iV cw,fv]):=(E0.old p h.pn).trans h.at_;have aa:=Ac h.facts.slice 99;rw[en f59];simp[f59,o9,A8,dh T hl,q0,aa,g1,q2,q3,a2,← q,ga,d.slice.aL,d.slice.cells,s1,W,q6,R,g4,g5,D6.len,J.aL]
inductive Reach:cN->cP->cN->cP->Prop
 |refl {L:cN} {ws:cP}:Reach L ws L ws
 |step {L L':cN} {ws ws':cP} {r:FR} (h:Rec (L.length+1) ws r) (hf:lF L r=true) (k:Reach (L++[r]) (ws.drop (L9 r)) L' ws'):Reach L ws L' ws'
def Reach.drop{L':cN}(h:Reach L ws L' a):∃j,a=ws.drop j:=by
 induction h with
 |refl=>exact⟨0,rfl⟩
 |step _ _ _ ih=>obtain⟨j,e⟩:=ih;exact⟨_,by rw[e,ajs]⟩
structure Qp(v:j5)(L:cN)(ws:cP):Prop where
 w:∀w∈ws,w.length<=1000
 z:∀L' ws',Reach L ws L' ws'->Kn v∨∀k,mP ws'=some k->k≠0
 j:∀L' ws',Reach L ws L' ws'->∀k,mP ws'=some k->((ws'.drop 1).take k).flatten.length<=16000
def Qp.drop{c:j5}(h:Qp v L ws){r:FR}(b:Rec (L.length+1) ws r)(hf:lF L r=true)(d:Kn v->Kn c):Qp c (L++[r]) (ws.drop (L9 r)):=
 ⟨λw e=>h.w w (ahh e),λL' a k=>(h.z L' a (.step b hf k)).imp d λz=>z,λL' a k=>h.j L' a (.step b hf k)⟩
def Zw(lo:Nat)(m:cD)(v:j5)(ws:cP):Prop:=(ws=[]∧DkE m v [])∨(xS m v ws∧Wp lo v)
def Zw.e(h:Zw lo m v ws):DkE m v ws:=by rcases h with⟨rfl,h⟩|⟨h,_⟩;exact h;exact .inl h
def afY{cw:Int}(n G:Nat)(V:20001<=G):∀(k:Nat) (ws:cP),ws.length<k->ws.length<=10000->∀(N:Nat),k<N->∀(M:cD) (dv lv fv:j5) (L:cN),aB lo M p cw lv fv (J4 1 L) L->M.Ok->Zw lo M dv ws->Qp dv L ws->Grown L->L.length<=200->(J4 1 L).length+ws.length<=20000->
   ∀(a1 a3 a5 a6 a7 a8 a9:j5),∃b2 b3 b5 b6 b7 b8 M' lv' fv' L',I9 (λenv m k=>Kh (l9 KW G (n+14)) G none env m k) N (xU (iV cw) a1 dv a3 (.ptr p 0) a5 a6 a7 a8 a9 iZ) M []=some [⟨.ret,(xU (iV cw) a1 b2 b3 (.ptr p 0) b5 b6 b7 b8 (.ptr p 0) iZ),M',[],none⟩]∧
    M'.Ok∧aB lo M' p cw lv' fv' (J4 1 L') L'∧Wo L ws L'∧Grown L'∧L'.length<=201∧Fr lo lo M M':=by
 intro k;induction k with
 |zero=>intro ws hk;omega
 |succ k ih=>
  intro ws hk hw N hN M dv lv fv L R hM hd ok hg hL hD a1 a3 a5 a6 a7 a8 a9;obtain⟨N,rfl⟩:=sx N;have hm:=hM;have hl:=R.sG;have hp:=R.at_;have s:=(aV R.facts).len;obtain⟨q,Z⟩:∃q,q=L.length+1:=⟨_,rfl⟩;have t:=Z5 Z Zs;rcases aiQ hM hl hd.e hw ok.w (ok.z L _ .refl) (ok.j L _ .refl) q Zs n G V with⟨r,M1,g1,E1,hr,hs,hrec⟩|⟨M1,g1,E1,hno⟩
  ·have d:=E1.ok;have R1:=R.ext E1;have u:=R1.sG;have E2:=o8 d [j6 r.f.cells];have R2:=R1.ext E2;have ho:=hr.one;obtain⟨M3,O,E3⟩:=acs (r:=r) E2.ok R2.sG R2.pn R2.at_ (aV R2.facts) R2.good Zs (n+12) G Zs;have R3:=R2.ext E3;have q3:M3.get M1.nx=some (j6 r.f.cells):=by rw[E3.old _ ZZ,l8 d];rfl
   cases hf:lF L r with
   |false=>
    rw[hf]at O;refine⟨dv,a3,tV,.ptr M1.nx 0,tV,(iN ((L9 r))),M3,lv,fv,L,?_,E3.ok,R3,.stop λr' A=>?_,hg,Zs,((E1.trans E2).trans E3).fr R.NU⟩
    rotate_left
    rw[← Z]at A;rw[nR rfl (hrec.2.uniq A.2).symm];exact hf;rw[o7];simp[Kh,o9,A8,D8,dh d u,hp,s,t,g1,ho,O,D6.len]
   |true=>
    rw[hf]at O;have ac:=(hr.ext E2).ext E3;obtain⟨M4,a2,K,r',g4,R4,F4,g,aa,ag⟩:=Ww R3 E3.ok ac hs hrec.2.valid Zs Zs (n+8) G V;have v:L9 r<=ws.length:=by obtain⟨af,e⟩:=hrec.2.pre;rw[e,aaf,dR];unfold L9;omega
    have ah:1<=L9 r:=(by unfold L9;omega);have E:ws≠[]:=λe=>(by rw[e]at v;simp at v;omega);have y:=Ab g.cn;have S:J4 1 L++iQ ((L.length+1:Nat):Int) (C8 r)=J4 1 (L++[r']):=by rw[oP,y,as2 1]
    rw[S]at R4 aa;have E13:=(E1.trans E2).trans E3;have dk:xS M4 dv ws∧Wp lo dv:=by
     rcases hd with⟨e,_⟩|⟨hd,hlo⟩;exact cj e E;refine⟨(hd.ext E13).keep F4.nx λid ab hv=>?_,hlo⟩;have ae:id<lo:=by rcases hv with⟨o,l,c,e⟩|⟨o,l,c,e⟩;exact hlo.1 _ _ _ _ e;exact hlo.2 _ _ _ _ e
     refine F4.old id ab (by have:=R.lo_;omega) (λo n e t=>?_) (λo n e t=>?_);have:=(lT R.list t).1;omega;have:=(U9 R.facts (.inl t)).1;omega
    obtain⟨I,b,cl,hb,Y⟩:=XM F4.ok dk.1 (L9 r) E v;have H:=λ(x a:OF) (ls:cM) (env:T j5) (hx:x ls env=dv) (ha:a ls env=(iN ((L9 r))))=>(acy hx ha M4.nx).trans cl;have W:Grown (L++[r']):=by refine .snoc hg ?_ ?_;have:r'.cn.valid=r.cn.valid:=(by rw[g.cn]);rw[iI,iI]at this;rw[this];exact hrec.2.valid;rw[nR rfl g.cn];exact hf
    have Q:(L++[r']).length<=200:=by have:=hrec.1;simp;omega
    have ad:(ws.drop (L9 r)).length=ws.length-L9 r:=ZZ;have P:(J4 1 (L++[r'])).length+(ws.drop (L9 r)).length<=20000:=by rw[← S,aaf,dR,ad];have:L9 r=(chunks (C8 r)).length+1:=rfl;omega
    have a0:Rec (L.length+1) ws r':=⟨by have:=hrec.1;omega,by
      have D:=hrec.2;rw[Z]at D;exact⟨by
       have:r'.cn.valid=r.cn.valid:=(by rw[g.cn]);rw[iI,iI]at this;rw[this];exact D.valid,by rw[y];exact D.pre⟩⟩
    have U:lF L r'=true:=(by rw[nR rfl g.cn];exact hf);have B:L9 r'=L9 r:=(by unfold L9;rw[y]);have a4:∀{X:cN},Wo (L++[r']) (ws.drop (L9 r)) X->Wo L ws X:=λ{X} h=>by
     have A:Rec (L.length+1) ws r':=⟨by have:=hrec.1;omega,by
      have D:=hrec.2;rw[Z]at D;exact⟨by
       have:r'.cn.valid=r.cn.valid:=(by rw[g.cn]);rw[iI,iI]at this;rw[this];exact D.valid,by rw[y];exact D.pre⟩⟩
     have e:L9 r'=L9 r:=(by unfold L9;rw[y]);exact .step A (by rw[nR rfl g.cn];exact hf) (by rw[e];exact h)
    have J:Fr lo lo M M4:=(E13.fr R.NU).trans ⟨F4.ok,F4.nx,F4.lim,λi hi E=>F4.old i (aP hi R3.NU) (by have:=R.lo_;omega) (λo n e t=>by have:=(lT R.list t).1;omega) (λo n e t=>by have:=(U9 R.facts (.inl t)).1;omega)⟩;rcases hb with⟨rfl,hdk2,hlo2⟩|⟨i,rfl,hde,hnil⟩;obtain⟨b2,b3,b5,b6,b7,b8,M5,F,C,L5,g5,z1,z2,z3,z4,z5,z6⟩:=ih (ws.drop (L9 r)) Zs Zs N Zs M4 I a2 K (L++[r']) R4 F4.ok (.inr ⟨hdk2,hlo2 lo dk.2⟩) (B▸ok.drop a0 U Y) W Q P a1 a3 tV (.ptr M1.nx 0) fV (iN ((L9 r))) a9;refine⟨b2,b3,b5,b6,b7,b8,M5,F,C,L5,?_,z1,z2,a4 z3,z4,z5,J.trans z6⟩;rw[o7,← g5];simp[Kh,o9,A8,D8,dh d u,hp,s,t,g1,ho,O,q3,g4,H,D6.len];have E5:cE M4 (M4.new (.tail i)):=(cE.refl F4.ok).new _;obtain⟨b2,b3,b5,b6,b7,b8,M5,F,C,L5,g5,z1,z2,z3,z4,z5,z6⟩:=ih (ws.drop (L9 r)) Zs Zs N Zs (M4.new (.tail i)) I a2 K (L++[r']) (R4.ext E5) E5.ok (.inl ⟨hnil,by rw[hnil]at hde;exact hde⟩) (B▸ok.drop a0 U Y) W Q P a1 a3 tV (.ptr M1.nx 0) fV (iN ((L9 r))) a9;refine⟨b2,b3,b5,b6,b7,b8,M5,F,C,L5,?_,z1,z2,a4 z3,z4,z5,(J.trans (E5.fr R4.NU)).trans z6⟩;rw[o7,← g5];simp[Kh,o9,A8,D8,dh d u,hp,s,t,g1,ho,O,q3,g4,H,D6.len]
  ·have d:=E1.ok;have u:=(R.ext E1).sG;have E2:=o8 d [j6 zr];refine⟨dv,a3,fV,.ptr M1.nx 0,tV,iZ,ext M1 [j6 zr],lv,fv,L,?_,E2.ok,(R.ext E1).ext E2,.stop λr hr=>cj (Z▸hr) (hno r),hg,Zs,(E1.trans E2).fr R.NU⟩
   rotate_left
   rw[o7];simp[Kh,o9,A8,D8,dh d u,hp,s,t,g1]
variable {dv:j5}
def Wx(r:m.Ok)(s:m.lim<=m.nx)(o:Zw m.nx m dv ws)(ok:ws.length<=4000->Qp dv [] ws)(id:Int)(n b:Nat)(k:20001<=b):
   (¬ (1<=id∧id<=6)∧l9 KW b (n+15) (.func 14) [iV id,dv] m=some [⟨.tuple [.nilPtr,iV 1],m⟩])∨
   ((1<=id∧id<=6)∧4000<ws.length∧l9 KW b (n+15) (.func 14) [iV id,dv] m=some [⟨.tuple [.nilPtr,iV 2],m⟩])∨
   ((1<=id∧id<=6)∧ws.length<=4000∧∃m' lv fv L,l9 KW b (n+15) (.func 14) [iV id,dv] m=some [⟨.tuple [.ptr m.nx 0,iZ],m'⟩]∧cE m m'∧aB m.nx m' m.nx id lv fv (J4 1 L) L∧Wo [] ws L∧Grown L∧L.length<=201):=by
 have a:=o.e.vs.len;rw[G7]at a;have c:=eB (n+13) b id 1 6 m;rw[en f14];by_cases h1:1<=id∧id<=6;have f:(decide (1<=id)&&decide (id<=6))=true:=by simp[h1]
 rw[f]at c;by_cases h3:4000<ws.length;have d:(4000:Int)<(ws.length:Int):=Zs
 refine .inr (.inl ⟨h1,h3,?_⟩);simp[f14,c,a,d];have d:¬ (4000:Int)<(ws.length:Int):=Zs
 have E0:=o8 r [j6 [nS,iV id,nS]];have R0:aB m.nx (ext m [j6 [nS,iV id,nS]]) m.nx id nS nS (J4 1 []) []:=
  ⟨by rw[l8 r];rfl,aA _,ZZ,s,.inl ⟨rfl,rfl⟩,.inl ⟨rfl,rfl⟩,ZZ,ZZ⟩
 have j:Zw m.nx (ext m [j6 [nS,iV id,nS]]) dv ws:=by rcases o with⟨e,h⟩|⟨h,h'⟩;exact .inl ⟨e,h.ext E0⟩;exact .inr ⟨h.ext E0,h'⟩
 obtain⟨y,z,A,B,C,D,M',lv,fv,L,g,t,u,v,w,x,l⟩:=afY (cw:=id) (p:=m.nx) (lo:=m.nx) n b k (ws.length+1) ws Zs Zs b Zs _ dv nS nS [] R0 E0.ok j (ok Zs) .nil ZZ (by simp[J4];omega) fV fV uV uV uV uV (.nilPtr);refine .inr (.inr ⟨h1,Zs,M',lv,fv,L,?_,⟨t,dn E0.nx l.nx,l.lim.trans E0.lim,λi q=>(l.old i q Zs).trans (E0.old i q)⟩,u,v,w,x⟩);simp[f14,o9,c,a,d,g];have f:(decide (1<=id)&&decide (id<=6))=false:=by rw[awZ,decide_eq_false_iff_not,decide_eq_false_iff_not];omega
 rw[f]at c;refine .inl ⟨h1,?_⟩;simp[f14,c]
def Zx(i:m.Ok)(l:m.lim<=m.nx)(s:By)(hs:2000<s.length)(d:s.length<=10000)(n f:Nat)(x:50001<=f):
   ∃m',l9 KW f (n+19) (.func 148) [.str s] m=some [⟨.tuple [.agg zr,fV],m'⟩]∧cE m m'∧∀r,¬ kX s r:=by
 have c:(2000:Int)<(s.length:Int):=Zs
 have E0:=o8 i [j6 zr];have j:(ext m [j6 zr]).get m.nx=some (j6 zr):=by rw[l8 i];rfl
 obtain⟨z,e,g,E1,u⟩:=AL E0.ok ZD s d 10 (n+17) f Zs;have g:l9 KW f (n+18) (.func 146) [.str s,.int .u8 10] (ext m [j6 zr])=some [⟨z,e⟩]:=g;have E01:=E0.trans E1;have t:e.lim<=e.nx:=by rw[E01.lim];have:=E01.nx;omega
 have y:m.nx+1<=e.nx:=by have:=E1.nx;simpa using this
 have a:=u.vs.len;rw[G7]at a;have b:=λ{β:Type} (p:j5->β) q=>u.vs.aL p q;have k:e.get m.nx=some (j6 zr):=by rw[E1.old _ ZZ];exact j
 obtain⟨N,v,h,X⟩:=aM (off:=0) (vs:=zr) E1.ok Zs (by rw[E01.lim];exact l) k ZZ ZZ rfl;have h:N.get m.nx=some (j6 zr):=by rw[h];simp
 refine⟨N,?_,jA E01 X (aA _),λr o=>by have:=eF o.1;rw[o.2]at this;omega⟩;rw[en f148];by_cases h3:((cA 10 s).length:Int)=3;simp (maxSteps:=3000000) [f148,dD,fA,fM,ay i l,aW,bH,-iq,g,a,b,h3,c,v,h];have w:¬ (cA 10 s).length=3:=Zs
 simp (maxSteps:=3000000) [f148,dD,fA,fM,ay i l,aW,bH,-iq,g,a,b,h3,v,h]
def acC(d:m.Ok)(c:m.lim<=m.nx)(s:By)(hs:s.length<=10000)(n a:Nat)(b:50001<=a):
   (∃r m',l9 KW a (n+19) (.func 148) [.str s] m=some [⟨.tuple [.agg r.f.cells,tV],m'⟩]∧cE m m'∧J9 m' r∧r.short∧kX s r)∨
   (∃m',l9 KW a (n+19) (.func 148) [.str s] m=some [⟨.tuple [.agg zr,fV],m'⟩]∧cE m m'∧∀r,¬ kX s r):=by
 by_cases h:s.length<=2000;rcases afB d c s h n a b with⟨r,m',h1,h2,h3,h4,h5,h6,h7⟩|h;exact .inl ⟨r,m',h1,h2,h3,⟨h4,h5,h6⟩,h7⟩;exact .inr h;exact .inr (Zx d c s Zs hs n a b)
def vR:∀(n:Nat) (s:By),s.length<=n->64*(chunks s).length<=s.length+63
 |0,s,h=>by obtain rfl:=U1.1 (show s.length=0 by omega);simp[dF]
 |n+1,s,h=>by by_cases hs:s=[];subst hs;simp[dF];have hp:=P6.2 hs;rw[ji hs];have:=vR n (s.drop 64) ZD;by_cases h2:s.length<=64;have e:s.drop 64=[]:=su h2;rw[e]at this ⊢;simp[dF];omega;simp at this ⊢;omega
def Gl(r:FR):C8 r≠[]:=by unfold C8;intro e;have:=ci List.length e;simp at this
def CU{s:By}(h:s≠[]):1<=(chunks s).length:=by rw[ji h];simp
def TA(d:By):Int:=match cA 32 d with
 |[_,_,w,_,_]=>kE w
 |_=>0
def XP{no:Int}{r:FR}(h:nQ no (d::t) r):TA d=((chunks (C8 r)).length:Int)∧1<=(chunks (C8 r)).length∧(chunks (C8 r)).length<=40∧(chunks (C8 r)).length<(d::t).length:=by
 have f:=eF h.valid;have b:=vR _ (C8 r) (aA _);obtain⟨a,e⟩:=h.pre;have c:d=C9 bZ [no,((chunks (C8 r)).length:Int),((C8 r).length:Int),(mW (C8 r):Int)]:=by unfold iQ at e;exact(akk e).1
 refine⟨?_,CU (Gl r),Zs,?_⟩;unfold TA;rw[c,oO];simp only[aX,afp,avT];exact ND Zs Zs;rw[e,aaf,dR];omega
def acD(E:dV m dv (strs ws))(v:∀w∈ws,w.length<=250)(k:Nat)(I:k<ws.length)(s:k<=40)(no x:Nat)(y l n:j5)(cf:G6)(z:Nat):∀(j i:Nat),i+j=k->∀(N:Nat),j<N->∀(a8:j5),
   I9 (λenv m k=>Sy cf z none env m k) N (PI dv fV (.ptr x 0) y l (iN k) n (iN ((i+1))) a8 (.str ((ws.drop 1).take i).flatten) uV uV (iN no) uV uV uV uV uV uV iZ) m []=some [⟨.exit 0,(PI dv fV (.ptr x 0) y l (iN k) n (iN ((k+1))) fV (.str ((ws.drop 1).take k).flatten) uV uV (iN no) uV uV uV uV uV uV iZ),m,[],none⟩]:=by
 intro j;induction j with
 |zero=>
  intro i D N B a8;obtain⟨N,rfl⟩:=sx N;obtain rfl:i=k:=Zs
  have f:¬ (i:Int)+1<=(i:Int):=Zs
  rw[o7];simp[Sy,f]
 |succ j ih=>
  intro i D N B a8;obtain⟨N,rfl⟩:=sx N;have f:(i:Int)+1<=(k:Int):=Zs
  have c:i+1<ws.length:=Zs
  obtain⟨id,G,o,_,p⟩:=E.at (i:=i+1) (by rw[G7];exact c);have d:(strs ws)[i+1]'(by rw[G7];exact c)=.str ws[i+1]:=by simp[strs]
  rw[d]at p;simp at o;have C:((ws.drop 1).take i).flatten.length<=10000:=by
   have:=Ez (b:=250) (ws:=(ws.drop 1).take i) λw h=>v w (ahh (adn h));have A:((ws.drop 1).take i).length<=40:=ZD
   have H:=U0 250 A;omega
  have F:=v ws[i+1] (ql c);have u:fZ ((ws.drop 1).take i).flatten ws[i+1]=some (.str ((ws.drop 1).take (i+1)).flatten):=by
   have e:(ws.drop 1).take (i+1)=(ws.drop 1).take i++[ws[i+1]]:=by rw[O7 ZD];simp[as2 1 i]
   rw[e,List.flatten_append];have:=Z4 (a:=((ws.drop 1).take i).flatten) (b:=ws[i+1]) Zs;simpa using this
  have g:=ih (i+1) Zs N Zs tV;obtain⟨q,t⟩:∃q,q=i+1+1:=⟨_,rfl⟩;have r:=Z5 (a:=i+1) t Zs;rw[← t]at g;rw[o7,← g];simp at r u;simp[Sy,f,o,p,u,r]
def acE{c:j5}{b:cP}(O:dV m dv (strs ws))(F:dV m c (strs b))(V:b.length<=ws.length)(hb:b.length<=10000)(no v:Nat)(K:∀{β:Type}(k:cD->Option β),storeAt m v 0 zr k=k M)(C w B x y z A d e f n:j5)(cf:G6)(E:Nat):∀(j i:Nat),i+j=b.length->∀(N:Nat),j<N->∀(a17 a18:j5),
   (b.drop i=(ws.take b.length).drop i∧∃(c18:j5),I9 (λenv m k=>BF cf E none env m k) N (PI dv fV (.ptr v 0) C w B x y z A d e (iN no) f c n (iN i) a17 a18 iZ) m []=some [⟨.exit 2,(PI dv fV (.ptr v 0) C w B x y z A d e (iN no) f c n (iN (b.length)) fV c18 iZ),m,[],none⟩])∨
   (b.drop i≠(ws.take b.length).drop i∧∃(c16 c17 c18:j5),I9 (λenv m k=>BF cf E none env m k) N (PI dv fV (.ptr v 0) C w B x y z A d e (iN no) f c n (iN i) a17 a18 iZ) m []=some [⟨.ret,(PI dv fV (.ptr v 0) C w B x y z A d e (iN no) f c n c16 c17 c18 iZ),M,[],none⟩]):=by
 intro j;induction j with
 |zero=>
  intro i U N S a17 a18;obtain⟨N,rfl⟩:=sx N;obtain rfl:i=b.length:=Zs
  have a:=F.len;rw[G7]at a;refine .inl ⟨by rw[su (aA _),su ZD],a18,?_⟩;rw[o7];simp[BF,a]
 |succ j ih=>
  intro i U N S a17 a18;obtain⟨N,rfl⟩:=sx N;have r:i<b.length:=Zs
  have s:i<ws.length:=Zs
  have a:=F.len;rw[G7]at a;obtain⟨id,o,G,_,H⟩:=F.at (i:=i) (by rw[G7];exact r);have D:(strs b)[i]'(by rw[G7];exact r)=.str b[i]:=by simp[strs]
  rw[D]at H;simp at G;obtain⟨W,X,I,_,J⟩:=O.at (i:=i) (by rw[G7];exact s);have u:(strs ws)[i]'(by rw[G7];exact s)=.str ws[i]:=by simp[strs]
  rw[u]at J;simp at I;have Q:=λ{β:Type} (p:j5->β) q=>O.aL p q;have P:=λ{β:Type} (p:j5->β) q=>F.aL p q;have L:decide ((i:Int)<(b.length:Int))=true:=co Zs;rw[zu r,zu (l:=ws.take b.length) ZD,axu];by_cases hq:b[i]=ws[i];have t:∀R:Option (List Out),I9 (λenv m k=>BF cf E none env m k) N (PI dv fV (.ptr v 0) C w B x y z A d e (iN no) f c n (iN ((i+1))) tV fV iZ) m []=R->I9 (λenv m k=>BF cf E none env m k) (N+1) (PI dv fV (.ptr v 0) C w B x y z A d e (iN no) f c n (iN i) a17 a18 iZ) m []=R:=λR T=>by rw[o7,← T];simp[BF,a,r,L,G,H,I,J,Q,P,hq,I4 (i:=i) Zs]
  rcases ih (i+1) Zs N Zs tV fV with⟨h1,c18,g⟩|⟨h1,c16,c17,c18,g⟩;exact .inl ⟨by rw[hq,h1],c18,t _ g⟩;exact .inr ⟨λh=>h1 (by injection h),c16,c17,c18,t _ g⟩;refine .inr ⟨λh=>hq (by injection h),(iN i),tV,tV,?_⟩;rw[o7];simp[BF,o9,A8,D8,a,r,L,G,H,I,J,Q,P,hq,K]
end Go.Proofs.YtpmfjipaheolgaaGreatDoor.TT
