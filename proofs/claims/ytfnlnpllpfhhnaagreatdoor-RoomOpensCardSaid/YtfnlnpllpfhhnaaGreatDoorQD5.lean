/- Functions of the program and of the specification, walked; conditions: the memory holds what the arguments say. -/
import Derived.Test.YtfnlnpllpfhhnaaGreatDoorQD4
set_option linter.all false
namespace Go.Proofs.YtfnlnpllpfhhnaaGreatDoor.TT
open Go Go.AM
set_option maxRecDepth 100000
set_option maxHeartbeats 8000000
theorem KM {l:List FR}{a b:Nat}(h:qN l a b){i j:Nat}(c:a<=i)(d:i<=j)(e:j<b):dw l i<=dw l j:=by rcases aCp d with h' | rfl;exact h i j c h' e;exact aCT _
theorem abI {M:Mem}{id:Nat}{l:List FR}(h:Ar M id l)(n d:Nat)(i:1000<=d)(a m b:Nat)(g:m=a+1)(A:m<b)(hb:b<=l.length)(p:qN l m b):
  ∃M' l',l8 KW d (n+5) (.func 266) [.sliceU id 0 l.length 32,(iN a),(iN m),(iN b),(.func (.func 105) [] [])] M=some [⟨.tuple [],M'⟩]∧nV id M l M' l'∧Mv a b l l'∧qN l' a b:=by
 have c:=h.big;obtain⟨t,M1,F,G,s,E1,H,q,D,E⟩:=Va n d i id a m b l.length m b c l rfl (λx=>decide (dw l x<dw l a)) hb (by omega) (λ_ _ _=>rfl)
  (λu v B j C z=>by
   have:=KM p B j C;simp only [decide_eq_true_eq] at z ⊢;omega) tV uV uV uV uV uV uV uV uV uV uV uV uV uV uV uV uV uV uV uV uV uV uV uV (b-m) m b (aA _) (by omega) (aA _) (aA _) (λk f e=>by omega) (λk f e=>by omega) d (by omega) M h uV uV uV
 obtain⟨M2,l',w,y,o⟩:=Ve n d id a m b l.length t c (by omega) (by omega) tV (iN t) fV F G uV uV uV uV uV uV uV uV uV uV uV uV uV uV uV uV uV uV uV uV uV (t-m) a (by omega) d (by omega) M1 l (h.ext E1) rfl uV;refine⟨M2,l',?_,(nV.of h E1).trans y,(o.mv (by omega) (by omega)).mono (aA _) q,Yp (by omega) q (g▸p) (λk f e=>by simpa using D k (by omega) e) (λk f e=>by simpa using E k f e) o⟩;rw [enter (sf:=f266) rfl rfl];have r:lI ((m:Int)-(a:Int))=1:=by rw [Z8 (by omega) (by omega)];omega
 simp [f266,r,s,w]
theorem Yr {M:Mem}{id:Nat}{l:List FR}(h:Ar M id l)(q d:Nat)(i:1000<=d)(a m b:Nat)(D:a+1<m)(j:b=m+1)(hb:b<=l.length)(z:qN l a m):
  ∃M' l',l8 KW d (q+5) (.func 266) [.sliceU id 0 l.length 32,(iN a),(iN m),(iN b),(.func (.func 105) [] [])] M=some [⟨.tuple [],M'⟩]∧nV id M l M' l'∧Mv a b l l'∧qN l' a b:=by
 have c:=h.big;obtain⟨t,M1,O,P,r,E1,A,K,L,N⟩:=Vb q d i id a m b l.length a m c l rfl (λx=>!decide (dw l m<dw l x)) (by omega) (by omega) (λ_ _ _=>rfl)
  (λu v H o I F=>by
   have:=KM z H o I;simp only [azL,decide_eq_false_iff_not] at F ⊢;omega) fV uV uV uV uV uV uV uV tV uV uV uV uV uV uV uV uV uV uV uV uV uV uV uV (m-a) a m (aA _) (by omega) (aA _) (aA _) (λk e f=>by omega) (λk e f=>by omega) d (by omega) M h uV uV uV
 obtain⟨M2,l',s,E,y⟩:=Vf q d id a m b l.length t c fV uV uV uV uV uV uV uV tV (iN t) fV O P uV uV uV uV uV uV uV uV uV uV uV uV uV (m-t) m (by omega) (by omega) d (by omega) M1 l (h.ext E1) rfl uV;subst j;refine⟨M2,l',?_,(nV.of h E1).trans E,(y.mv (by omega) (by omega)).mono A (aA _),Si A K z (λk e f=>by have:=L k e f;simp at this;omega) (λk e f=>by have:=N k e f;simp at this;omega) y⟩;rw [enter (sf:=f266) rfl rfl];obtain⟨p,G⟩:∃p,p+a=m:=⟨m-a,by omega⟩;have B:=bZ G (by omega);have n:¬ p=1:=by omega
 have g:¬ (p:Int)=1:=by omega
 obtain⟨w,J⟩:∃w,w=m+1:=⟨_,rfl⟩;rw [← J] at r s ⊢;have C:lI ((w:Int)-(m:Int))=1:=by rw [Z8 (by omega) (by omega)];omega
 simp [f266,B,n,g,C,r,s]
set_option maxHeartbeats 16000000
theorem Vg {M:Mem}{id:Nat}{l:List FR}(h:Ar M id l)(C q:Nat)(w:1000<=q)(a m b d c p lo hi:Nat)(I:a+1<m)(O:m+1<b)(hb:b<=l.length)(Z:d=(a+b) / 2)(Q:c=d+m)(hp:p+1=c)
  (g:lo=if d<m then c-b else a) (f:hi=if d<m then d else m) (T:qN l a m) (U:qN l m b) (o:d9):
  ∃t M1 zh zr,J5 (λenv m k=>qx (l8 KW q (C+4)) q none env m k) q (Gd (iN m) (iN a) fV (iN b) uV uV uV (.func (.func 105) [] []) (.sliceU id 0 l.length 32) uV uV uV uV fV uV uV uV uV uV uV uV (iN d) o (iN c) (iN lo) (iN hi) uV (iN p) uV uV uV uV uV uV) M [] =
     some [⟨.exit 8,(Gd (iN m) (iN a) fV (iN b) uV uV uV (.func (.func 105) [] []) (.sliceU id 0 l.length 32) uV uV uV uV fV uV uV uV uV uV uV uV (iN d) o (iN c) (iN t) (iN t) fV (iN p) zh zr uV uV uV uV),M1,[],none⟩]∧Ext M M1∧
   ∃e,t+e=c∧a<=t∧t<=m∧t<=d∧m<=e∧e<=b∧d<=e∧(a<t->e<b->dw l (t-1)<=dw l e)∧(t<m->m<e->dw l (e-1)<dw l t):=by
 have r:=h.big;have B:a<=lo:=by rw [g];split<;>omega
 have z:lo<=hi:=by rw [g,f];split<;>omega
 have N:hi<=m:=by rw [f];split<;>omega
 have L:hi<=d:=by rw [f];split<;>omega
 have y:c<=lo+b:=by rw [g];split<;>omega
 obtain⟨t,M1,zh,zr,F,E1,D,E,V,W⟩:=Vd C q w id a m b l.length lo hi p r l rfl (λx=>!decide (dw l (p-x)<dw l x)) (by omega) (λx hx S=>⟨by omega,by omega⟩) (λ_ _ _=>rfl)
  (λu v hu A hv s=>by
   have X:=KM T (i:=u) (j:=v) (by omega) A (by omega);have Y:=KM U (i:=p-v) (j:=p-u) (by omega) (by omega) (by omega);simp only [azL,decide_eq_false_iff_not] at s ⊢;omega) fV uV uV uV uV uV uV uV fV uV uV uV uV uV uV uV (iN d) o (iN c) uV uV uV uV (hi-lo) lo hi (aA _) z (aA _) (aA _) (λk G H=>by omega) (λk G H=>by omega) q (by omega) M h uV uV uV
 refine⟨t,M1,zh,zr,F,E1,c-t,by omega,by omega,by omega,by omega,by omega,by omega,by omega,λJ K=>?_,λR P=>?_⟩;have n:lo<=t-1:=by rw [g] at D y ⊢;split at D<;>split<;>omega
 have:=V (t-1) n (by omega);simp only [azL,decide_eq_false_iff_not] at this;rw [show p-(t-1)=c-t from by omega] at this;omega;have n:t<hi:=by rw [f] at E ⊢;split at E<;>split<;>omega
 have:=W t (aA _) n;simp only [Bool.not_eq_false',decide_eq_true_eq] at this;rw [show p-t=c-t-1 from by omega] at this;exact this
theorem WV (k:Nat)(B:1000<=k)(id:Nat):∀(s:Nat) (M:Mem) (l:List FR),Ar M id l->∀(n0 a m b:Nat),b-a<=s->a<m->m<b->b<=l.length->qN l a m->qN l m b->
  ∃M' l',l8 KW k (n0+s+5) (.func 266) [.sliceU id 0 l.length 32,(iN a),(iN m),(iN b),(.func (.func 105) [] [])] M=some [⟨.tuple [],M'⟩]∧nV id M l M' l'∧Mv a b l l'∧qN l' a b:=by
 intro s;induction s with
 | zero=>intro M l h n0 a m b hs Y N;omega
 | succ s ih=>
  intro M l h n0 a m b hs Y N Z W X;by_cases c1:m=a+1;exact abI h (n0+(s+1)) k B a m b c1 N Z X;by_cases c2:b=m+1;exact Yr h (n0+(s+1)) k B a m b (by omega) c2 Z W;have a6:=h.big;obtain⟨d,U⟩:∃d,d=(a+b) / 2:=⟨_,rfl⟩;obtain⟨nn,C⟩:∃nn,nn=d+m:=⟨_,rfl⟩;obtain⟨p,V⟩:∃p,p+1=nn:=⟨nn-1,by omega⟩;obtain⟨lo,j⟩:∃lo,lo=if d<m then nn-b else a:=⟨_,rfl⟩
  obtain⟨hi,i⟩:∃hi,hi=if d<m then d else m:=⟨_,rfl⟩
  obtain⟨t,M1,zh,zr,D,E1,e,te,I,tm,td,me,eb,de,k1,k2⟩:=Vg h (n0+(s+1)) k B a m b d nn p lo hi (by omega) (by omega) Z U C V j i W X (.bool (decide (d<m)));have a1:=h.ext E1;obtain⟨M2,l2,y,n,O⟩:∃M2 l2,((t<m∧m<e∧l8 KW k (n0+s+5) (.func 334) [.sliceU id 0 l.length 32,(iN t),(iN m),(iN e),(.func (.func 105) [] [])] M1=some [⟨.tuple [],M2⟩])∨(¬ (t<m∧m<e)∧M2=M1))∧nV id M1 l M2 l2∧AA t m e l l2:=by
   by_cases c:t<m∧m<e;obtain⟨M2,l2,g,J,O⟩:=afE a1 (n0+s+3) k B t m e c.1 c.2 (by omega) (.func (.func 105) [] []);exact⟨M2,l2,.inl ⟨c.1,c.2,g⟩,J,O⟩;refine⟨M1,l,.inr ⟨c,rfl⟩,nV.refl a1,?_⟩;by_cases ct:t<m;obtain rfl:e=m:=by omega
   exact WU (by omega);obtain rfl:t=m:=by omega
   exact IG (by omega)
  have P:(t<m∧m<e∧l8 KW k (n0+s+5) (.func 334) [.sliceU id 0 l.length 32,(iN t),(iN m),(iN e),(.func (.func 105) [] [])] M1=some [⟨.tuple [],M2⟩])∨(t<m∧¬ m<e∧M2=M1)∨(¬ t<m∧M2=M1):=by rcases y with y | ⟨r,y⟩;exact .inl y;by_cases c:t<m;exact .inr (.inl ⟨c,λh=>r ⟨c,h⟩,y⟩);exact .inr (.inr ⟨c,y⟩)
  obtain⟨hx,q1,q2,q3,q4⟩:=Yq (d:=d) I tm me eb (by omega) tm W X k1 k2 O;have L:=n.len;obtain⟨M3,v,z,o,u,w1⟩:∃M3 v,((a<t∧t<d∧l8 KW k (n0+s+5) (.func 266) [.sliceU id 0 l.length 32,(iN a),(iN t),(iN d),(.func (.func 105) [] [])] M2=some [⟨.tuple [],M3⟩])∨(¬ (a<t∧t<d)∧M3=M2))∧nV id M2 l2 M3 v∧Mv a d l2 v∧qN v a d:=by
   by_cases c:a<t∧t<d;obtain⟨M3,v,g,J,hm,a4⟩:=ih M2 l2 n.ar n0 a t d (by omega) c.1 c.2 (by omega) q1 q2;rw [L] at g;exact⟨M3,v,.inl ⟨c.1,c.2,g⟩,J,hm,a4⟩;refine⟨M2,l2,.inr ⟨c,rfl⟩,nV.refl n.ar,Mv.refl _ _ _,?_⟩;by_cases ct:a<t;obtain rfl:t=d:=by omega
   exact q1;obtain rfl:a=t:=by omega
   exact q2
  have a0:=o.len.trans L;have Q:(a<t∧t<d∧l8 KW k (n0+s+5) (.func 266) [.sliceU id 0 l.length 32,(iN a),(iN t),(iN d),(.func (.func 105) [] [])] M2=some [⟨.tuple [],M3⟩])∨(a<t∧¬ t<d∧M3=M2)∨(¬ a<t∧M3=M2):=by rcases z with z | ⟨r,z⟩;exact .inl z;by_cases c:a<t;exact .inr (.inl ⟨c,λh=>r ⟨c,h⟩,z⟩);exact .inr (.inr ⟨c,z⟩)
  obtain⟨M4,H,A,K,G,w2⟩:∃M4 H,((d<e∧e<b∧l8 KW k (n0+s+5) (.func 266) [.sliceU id 0 l.length 32,(iN d),(iN e),(iN b),(.func (.func 105) [] [])] M3=some [⟨.tuple [],M4⟩])∨(¬ (d<e∧e<b)∧M4=M3))∧nV id M3 v M4 H∧Mv d b v H∧qN H d b:=by
   have u1:=qN.out u q3 (.inr (aA _));have u2:=qN.out u q4 (.inr de);by_cases c:d<e∧e<b;obtain⟨M4,H,g,J,hm,a5⟩:=ih M3 v o.ar n0 d e b (by omega) c.1 c.2 (by omega) u1 u2;rw [a0] at g;exact⟨M4,H,.inl ⟨c.1,c.2,g⟩,J,hm,a5⟩;refine⟨M3,v,.inr ⟨c,rfl⟩,nV.refl o.ar,Mv.refl _ _ _,?_⟩;by_cases ct:d<e;obtain rfl:e=b:=by omega
   exact u1;obtain rfl:d=e:=by omega
   exact u2
  have R:(d<e∧e<b∧l8 KW k (n0+s+5) (.func 266) [.sliceU id 0 l.length 32,(iN d),(iN e),(iN b),(.func (.func 105) [] [])] M3=some [⟨.tuple [],M4⟩])∨(d<e∧¬ e<b∧M4=M3)∨(¬ d<e∧M4=M3):=by rcases A with A | ⟨r,A⟩;exact .inl A;by_cases c:d<e;exact .inr (.inl ⟨c,λh=>r ⟨c,h⟩,A⟩);exact .inr (.inr ⟨c,A⟩)
  refine⟨M4,H,?_,(((nV.of h E1).trans n).trans o).trans K,(((O.mv tm me).mono I eb).trans (u.mono (aA _) (by omega))).trans (G.mono (by omega) (aA _)),halves (by omega) (by omega) hx u G w1 w2⟩;clear ih hx O u G w1 w2 q1 q2 q3 q4 k1 k2 W X n o K y z A;rw [enter (sf:=f266) rfl rfl];obtain⟨p1,a2⟩:∃x,x+a=m:=⟨m-a,by omega⟩;have x0:=bZ a2 (by omega);have S:¬ (p1:Int)=1:=by omega
  have E:¬ p1=1:=by omega
  obtain⟨p2,a3⟩:∃x,x+m=b:=⟨b-m,by omega⟩;have x1:=bZ a3 (by omega);have T:¬ (p2:Int)=1:=by omega
  have F:¬ p2=1:=by omega
  obtain⟨w,v1,v2,v3,v4⟩:=Ez U (by omega);have x2:=gZ C (by omega);have x3:=wN V (by omega);have x5:lI ((nn:Int)-(t:Int))=(e:Int):=bZ (by omega) (by omega);have f:n0+(s+1)+4=n0+s+5:=by omega
  rw [f] at D ⊢;by_cases cdm:d<m;rw [if_pos cdm] at j i;rw [j,i] at D;obtain⟨q,hq⟩:∃q,q+b=nn:=⟨nn-b,by omega⟩;have x4:=bZ hq (by omega);rw [show nn-b=q from by omega] at D;simp only [cdm,decide_true] at D;clear U C V j i te f;rcases P with⟨r1,r2,y⟩ | ⟨r1,r2,rfl⟩ | ⟨r1,rfl⟩<;>rcases Q with⟨r3,r4,z⟩ | ⟨r3,r4,rfl⟩ | ⟨r3,rfl⟩<;>rcases R with⟨r5,r6,A⟩ | ⟨r5,r6,rfl⟩ | ⟨r5,rfl⟩<;>simp [f266,x0,S,E,x1,T,F,v1,v2,v3,v4,x2,x3,x4,x5,cdm,D, *]
  rw [if_neg cdm] at j i;rw [j,i] at D;simp only [cdm,decide_false] at D;clear U C V j i te f;rcases P with⟨r1,r2,y⟩ | ⟨r1,r2,rfl⟩ | ⟨r1,rfl⟩<;>rcases Q with⟨r3,r4,z⟩ | ⟨r3,r4,rfl⟩ | ⟨r3,rfl⟩<;>rcases R with⟨r5,r6,A⟩ | ⟨r5,r6,rfl⟩ | ⟨r5,rfl⟩<;>simp [f266,x0,S,E,x1,T,F,v1,v2,v3,v4,x2,x3,x5,cdm,D, *]
theorem Vh (R u:Nat)(D:1000<=u)(id a b n O:Nat)(hn:n<=200)(V:d9):
  ∀(s j:Nat),a+s=j->j<n->∀(N:Nat),s<N->∀(M:Mem) (l:List FR),Ar M id l->l.length=n->∀(xd:d9),
   ∃t M' l',J5 (λenv m k=>Cu (l8 KW u (R+4)) u none env m k) N (Ni (iN a) (iN O) (iN b) V (iN j) (.func (.func 105) [] []) (.sliceU id 0 n 32) xd) M []=some [⟨.exit 2,(Ni (iN a) (iN O) (iN b) V (iN t) (.func (.func 105) [] []) (.sliceU id 0 n 32) fV),M',[],none⟩]∧nV id M l M' l'∧AA t j (j+1) l l'∧a<=t∧t<=j∧
    (∀k,t<=k->k<j->dw l j<dw l k)∧(a<t->dw l (t-1)<=dw l j):=by
 intro s;induction s with
 | zero=>
  intro j Z E N Y M l h L xd;obtain⟨N,rfl⟩:∃M,N=M+1:=⟨N-1,by omega⟩;obtain rfl:a=j:=by omega
  refine⟨a,M,l,?_,nV.refl h,IG (by omega),aA _,aA _,λk A K=>by omega,λh=>by omega⟩;rw [l9];simp [Cu]
 | succ s ih=>
  intro j Z E N Y M l h L xd;obtain⟨N,rfl⟩:∃M,N=M+1:=⟨N-1,by omega⟩;have c:j<l.length:=by omega
  have d:j-1<l.length:=by omega
  have i:a<j:=by omega
  obtain⟨M1,J,E1⟩:=IC h.ok h.lm R u D (h.get c) (h.get d);have B:=h.ext E1;have w:=h.fa.ld c;have z:=h.fa.ld d;have G:=B.fa.ld c;have H:=B.fa.ld d;have W:=(h.get c).rf;have X:=(h.get d).rf;have e:=IE (h.get c) (h.get d);rw [← kZ c,← kZ d] at e;have P:∀{β:Type} (f:Nat->Option β),idx n (iV (j:Int)) f=f j:=λf=>au _ _ f (by omega);obtain⟨q,hq⟩:∃q,q+1=j:=⟨j-1,by omega⟩;have p:j-1=q:=by omega
  have Q:∀{β:Type} (f:Nat->Option β),idx n (iV (q:Int)) f=f q:=λf=>au _ _ f (by omega);have I:=wN hq (by omega);cases hb:decide (dw l j<dw l (j-1)) with
  | false=>rw [hb] at e;refine⟨j,M1,l,?_,nV.of h E1,IG (by omega),by omega,aA _,λk A K=>by omega,λ_=>by simp at hb;exact hb⟩;generalize hx:l[j]=x at *;generalize hy:l[j-1]=y at *;simp only [p] at w z G H e;clear ih;rw [l9];simp [Cu,i,I,P,Q,w,z,W,X,J,e]
  | true=>
   rw [hb] at e;obtain⟨m1,m2,s1,S,v⟩:=B.swap c d;obtain⟨t,M',l',g,o,F,t1,t2,T,U⟩:=ih (j-1) (by omega) (by omega) N (by omega) m2 _ v.ar (v.len.trans L) tV;rw [show j-1+1=j from by omega] at F;have r:∀k,dw (swp l j (j-1) c d) k=if k=j-1 then dw l j else if k=j then dw l (j-1) else dw l k:=λk=>by by_cases c1:k=j-1;rw [if_pos c1];exact jP (by rw [swp_get,if_pos c1]);by_cases c2:k=j;rw [if_neg c1,if_pos c2];exact jP (by rw [swp_get,if_neg c1,if_pos c2]);rw [if_neg c1,if_neg c2];exact jP (by rw [swp_get,if_neg c1,if_neg c2])
   refine⟨t,M',l',?_,((nV.of h E1).trans v).trans o,Sj (by omega) c d rfl F,t1,by omega,λk A K=>?_,λC=>?_⟩;rw [l9,← g];generalize hx:l[j]=x at *;generalize hy:l[j-1]=y at *;simp only [p] at w z G H S e ⊢;clear ih F v o T U g r hb;simp [Cu,i,I,P,Q,w,z,G,H,W,X,J,e,s1,S,G6.len];by_cases hk:k=j-1;subst hk;simpa using hb;have:=T k A (by omega);rw [r,r,if_pos rfl,if_neg (by omega),if_neg (by omega)] at this;exact this;have:=U C;rw [r,r,if_pos rfl,if_neg (by omega),if_neg (by omega)] at this;exact this
theorem Vi (B e:Nat)(o:1000<=e)(id a b n:Nat)(I:n<=200)(hb:b<=n):
  ∀(s i:Nat),i+s=b->a<i->∀(N:Nat),s<N->∀(M:Mem) (l:List FR),Ar M id l->l.length=n->qN l a i->∀(y3 y4 y7:d9),
   ∃z4 z7 M' l',J5 (λenv m k=>FX (l8 KW e (B+4)) e none env m k) N (Ni (iN a) (iN i) (iN b) y3 y4 (.func (.func 105) [] []) (.sliceU id 0 n 32) y7) M []=some [⟨.exit 0,(Ni (iN a) (iN b) (iN b) fV z4 (.func (.func 105) [] []) (.sliceU id 0 n 32) z7),M',[],none⟩]∧nV id M l M' l'∧Mv a b l l'∧qN l' a b:=by
 intro s;induction s with
 | zero=>
  intro i H g N G M l h r f y3 y4 y7;obtain⟨N,rfl⟩:∃M,N=M+1:=⟨N-1,by omega⟩;obtain rfl:i=b:=by omega
  refine⟨y4,y7,M,l,?_,nV.refl h,Mv.refl _ _ _,f⟩;rw [l9];simp [FX]
 | succ s ih=>
  intro i H g N G M l h r f y3 y4 y7;obtain⟨N,rfl⟩:∃M,N=M+1:=⟨N-1,by omega⟩;obtain⟨t,M1,A,E,d,z,C,K,L,O⟩:=Vh B e o id a b n i I tV (i-a) i (by omega) (by omega) e (by omega) M l h r y7;have v:qN A a (i+1):=Si C K f (λk F P=>by
   have c:=O (by omega);exact aCi (KM f F (by omega:k<=t-1) (by omega)) c) L z
  obtain⟨z4,z7,M2,J,x,j,u,w⟩:=ih (i+1) (by omega) (by omega) N (by omega) M1 A d.ar (d.len.trans r) v tV (iN t) fV;refine⟨z4,z7,M2,J,?_,d.trans j,((z.mv (by omega) (by omega)).mono C (by omega)).trans u,w⟩;obtain⟨q,y⟩:∃q,q=i+1:=⟨_,rfl⟩;rw [← y] at x;have D:=ak y (by omega);have p:i<b:=by omega
  rw [l9,← x];simp [FX,p,E,D]
theorem WW {M:Mem}{id:Nat}{l:List FR}(h:Ar M id l)(k d:Nat)(e:1000<=d)(a b:Nat)(n:a<b)(hb:b<=l.length):
  ∃M' l',l8 KW d (k+5) (.func 265) [.sliceU id 0 l.length 32,(iN a),(iN b),(.func (.func 105) [] [])] M=some [⟨.tuple [],M'⟩]∧nV id M l M' l'∧Mv a b l l'∧qN l' a b:=by
 have c:=h.big;obtain⟨v,w,M',l',g,o,p,r⟩:=Vi k d e id a b l.length c hb (b-(a+1)) (a+1) (by omega) (by omega) d (by omega) M l h rfl (λi j s t u=>by omega) uV uV uV;refine⟨M',l',?_,o,p,r⟩;rw [enter (sf:=f265) rfl rfl];obtain⟨q,f⟩:∃q,q=a+1:=⟨_,rfl⟩;rw [← f] at g;have m:=ak f (by omega);simp [f265,m,g]
theorem Ny (M:Mem)(i c:Nat)(g:1000<=c)(v w:d9)(a b:Nat)(f:b<=a+1)(j:a<1000):l8 KW c (i+1) (.func 265) [v,(iN a),(iN b),w] M=some [⟨.tuple [],M⟩]:=by
 rw [enter (sf:=f265) rfl rfl];obtain⟨c,rfl⟩:∃k,c=k+1:=⟨c-1,by omega⟩;obtain⟨q,h⟩:∃q,q=a+1:=⟨_,rfl⟩;have e:=ak h (by omega);have d:¬ q<b:=by omega
 simp [f265,FX,l9,e,d]
theorem abJ (M:Mem)(c a:Nat)(b:1000<=a)(v w:d9):l8 KW a (c+2) (.func 184) [v,iZ,w] M=some [⟨.tuple [],M⟩]:=by rw [enter (sf:=f184) rfl rfl];have g:=Ny M c a b v w 0 0 (by omega) (by omega);simp at g;obtain⟨a,rfl⟩:∃k,a=k+1:=⟨a-1,by omega⟩;simp [f184,Ct,rP,l9,g]
theorem ayf {b q:Nat}(h:q=2*b)(a:q<4611686018427387904):lI (2*(b:Int))=(q:Int):=by rw [Z8 (by omega) (by omega)];omega
theorem ayg {b q:Nat}(h:q=2*b)(a:q<4611686018427387904):lI ((b:Int)*2)=(q:Int):=by rw [Z8 (by omega) (by omega)];omega
def SB (l:List FR)(bs lo hi:Nat):Prop:=∀i j,lo<=i->i<j->j<hi->i / bs=j / bs->dw l i<=dw l j
theorem SB.out {l e:List FR}{a b c lo hi:Nat}(h:SB l c lo hi)(d:Mv a b l e)(o:hi<=a∨b<=lo):SB e c lo hi:=λi j f g m n=>by rw [d.Sg (k:=i) (by omega),d.Sg (k:=j) (by omega)];exact h i j f g m n
theorem Vj (B g:Nat)(t:1000<=g)(id n:Nat)(Q:n<=200):
  ∀(k a:Nat),n-a<=k->a<=n->a%20=0->∀(N:Nat),k<N->∀(M:Mem) (l:List FR),Ar M id l->l.length=n->SB l 20 0 a->∀(b:Nat),b=a+20->∀(c3 c7 c8 m9 c10:d9),
   ∃a' b' M' l',J5 (λenv m k=>Ct (l8 KW g (B+205)) g none env m k) N (xC (iV 20) (iN b) (iN n) c3 (.sliceU id 0 n 32) (iN a) (.func (.func 105) [] []) c7 c8 m9 c10) M []=some [⟨.exit 0,(xC (iV 20) (iN b') (iN n) fV (.sliceU id 0 n 32) (iN a') (.func (.func 105) [] []) c7 c8 m9 c10),M',[],none⟩]∧
    a'<=n∧n<a'+20∧a'%20=0∧nV id M l M' l'∧Mv 0 n l l'∧SB l' 20 0 a':=by
 intro k;induction k with
 | zero=>
  intro a I d r N G M l h u o b H c3 c7 c8 m9 c10;obtain⟨N,rfl⟩:∃M,N=M+1:=⟨N-1,by omega⟩;refine⟨a,b,M,l,?_,d,by omega,r,nV.refl h,Mv.refl _ _ _,o⟩;have c:¬ b<=n:=by omega
  rw [l9];simp [Ct,c]
 | succ k ih=>
  intro a I d r N G M l h u o b H c3 c7 c8 m9 c10;obtain⟨N,rfl⟩:∃M,N=M+1:=⟨N-1,by omega⟩;by_cases c:b<=n;obtain⟨M1,J,p,e,f,w⟩:=WW h (B+200) g t a b (by omega) (by omega);rw [u] at p;obtain⟨q,A⟩:∃q,q=b+20:=⟨_,rfl⟩;have y:=gZ (a:=b) (b:=20) A (by omega);obtain⟨a',b',M2,K,C,L,O,P,s,v,x⟩:=ih b (by omega) c (by omega) N (by omega) M1 J e.ar (e.len.trans u) (λi j D z E F=>by
   by_cases hj:j<a;exact (o.out f (.inl (aA _))) i j D z hj F;exact w i j (by omega) z E) q A tV c7 c8 m9 c10
  refine⟨a',b',M2,K,?_,L,O,P,e.trans s,(f.mono (adH _) c).trans v,x⟩;rw [l9,← C];try simp at p
  try simp at y
  simp [Ct,c,p,y];refine⟨a,b,M,l,?_,d,by omega,r,nV.refl h,Mv.refl _ _ _,o⟩;rw [l9];simp [Ct,c]
def Pw (bs:Nat):Prop:=bs=20∨bs=40∨bs=80∨bs=160
theorem Vk (L v:Nat)(B:1000<=v)(id n bs:Nat)(hn:n<=200)(e:Pw bs):
  ∀(k a:Nat),n-a<=k->a<=n->a%(2*bs)=0->∀(N:Nat),k<N->∀(M:Mem) (l:List FR),Ar M id l->l.length=n->SB l (2*bs) 0 a->SB l bs a n->∀(b:Nat),b=a+2*bs->∀(c3 c7 c8 m9 c10:d9),
   ∃a' b' M' l',J5 (λenv m k=>zR (l8 KW v (L+205)) v none env m k) N (xC (iN bs) (iN b) (iN n) c3 (.sliceU id 0 n 32) (iN a) (.func (.func 105) [] []) c7 c8 m9 c10) M []=some [⟨.exit 4,(xC (iN bs) (iN b') (iN n) c3 (.sliceU id 0 n 32) (iN a') (.func (.func 105) [] []) c7 fV m9 c10),M',[],none⟩]∧
    a'<=n∧n<a'+2*bs∧a'%(2*bs)=0∧nV id M l M' l'∧Mv 0 n l l'∧SB l' (2*bs) 0 a'∧SB l' bs a' n:=by
 have R:0<bs:=by rcases e with rfl | rfl | rfl | rfl<;>omega
 intro k;induction k with
 | zero=>
  intro a T r z N P M l h C x f b Q c3 c7 c8 m9 c10;obtain⟨N,rfl⟩:∃M,N=M+1:=⟨N-1,by omega⟩;refine⟨a,b,M,l,?_,r,by omega,z,nV.refl h,Mv.refl _ _ _,x,f⟩;have c:¬ b<=n:=by omega
  rw [l9];simp [zR,c]
 | succ k ih=>
  intro a T r z N P M l h C x f b Q c3 c7 c8 m9 c10;obtain⟨N,rfl⟩:∃M,N=M+1:=⟨N-1,by omega⟩;by_cases c:b<=n;obtain⟨M1,V,w,s,g,E⟩:=WV v B id 200 M l h L a (a+bs) b (by omega) (by omega) (by omega) (by omega)
   (λi j t o u=>f i j t o (by omega) (by rcases e with rfl | rfl | rfl | rfl<;>omega)) (λi j t o u=>f i j (by omega) o (by omega) (by rcases e with rfl | rfl | rfl | rfl<;>omega))
  rw [C] at w;obtain⟨p,K⟩:∃p,p=a+bs:=⟨_,rfl⟩;rw [← K] at w;obtain⟨d,S⟩:∃d,d=2*bs:=⟨_,rfl⟩;obtain⟨q,U⟩:∃q,q=b+d:=⟨_,rfl⟩;have bb:bs<=160:=by rcases e with rfl | rfl | rfl | rfl<;>omega
  have H:=gZ (a:=a) (b:=bs) K (by omega);have I:=ayf (b:=bs) S (by omega);have J:=gZ (a:=b) (b:=d) U (by omega);obtain⟨a',b',M2,W,O,X,Y,Z,A,D,F,G⟩:=ih b (by omega) c (by rcases e with rfl | rfl | rfl | rfl<;>omega) N (by omega) M1 V s.ar (s.len.trans C) (λi j t o u y=>by
   by_cases hj:j<a;exact (x.out g (.inl (aA _))) i j t o hj y;exact E i j (by rcases e with rfl | rfl | rfl | rfl<;>omega) o u) (λi j t o u y=>by
   rw [g.Sg (k:=i) (by omega),g.Sg (k:=j) (by omega)];exact f i j (by omega) o u y) q (by omega) c3 c7 tV m9 c10
  refine⟨a',b',M2,W,?_,X,Y,Z,s.trans A,(g.mono (adH _) c).trans D,F,G⟩;rw [l9,← O];try simp at w
  try simp at H
  try simp at I
  try simp at J
  simp [zR,c,w,H,I,J];refine⟨a,b,M,l,?_,r,by omega,z,nV.refl h,Mv.refl _ _ _,x,f⟩;rw [l9];simp [zR,c]
theorem Px (D o:Nat)(v:1000<=o)(id n bs:Nat)(S:n<=200)(c:Pw bs)(w:bs<n){M:Mem}{l:List FR}(h:Ar M id l)(L:l.length=n)(hs:SB l bs 0 n)(N:Nat)(X E Y Q K P u:d9):
  ∃y1 y5 y7 y8 y9 y10 M' l',J5 (λenv m k=>rP (l8 KW o (D+205)) o none env m k) (N+1) (xC (iN bs) X (iN n) E (.sliceU id 0 n 32) Y (.func (.func 105) [] []) Q K P u) M []=J5 (λenv m k=>rP (l8 KW o (D+205)) o none env m k) N (xC (iN ((2*bs))) y1 (iN n) E (.sliceU id 0 n 32) y5 (.func (.func 105) [] []) y7 y8 y9 y10) M' []∧
   nV id M l M' l'∧Mv 0 n l l'∧SB l' (2*bs) 0 n:=by
 have Z:bs<=160:=by rcases c with rfl | rfl | rfl | rfl<;>omega
 have R:0<bs:=by rcases c with rfl | rfl | rfl | rfl<;>omega
 obtain⟨d,q⟩:∃d,d=2*bs:=⟨_,rfl⟩;obtain⟨a,b,M1,O,C,r1,V,W,g,x,s,e⟩:=Vk D o v id n bs S c n 0 (by omega) (by omega) (Nat.zero_mod _) o (by omega) M l h L (λi j r f t=>by omega) hs d (by omega) E tV K P u;rw [← q] at V W s ⊢;have A:=ayf (b:=bs) q (by omega);have B:=ayg (b:=bs) q (by omega);obtain⟨p,T⟩:∃p,p=a+bs:=⟨_,rfl⟩;have z:=gZ (a:=a) (b:=bs) T (by omega);have I:=g.len.trans L;by_cases hm:p<n
 ·obtain⟨M2,U,F,H,y,J⟩:=WV o v id 200 M1 O g.ar D a p n (by omega) (by omega) (by omega) (by omega)
    (λi j r f t=>e i j r f (by omega) (by rcases c with rfl | rfl | rfl | rfl<;>(subst q;omega))) (λi j r f t=>e i j (by omega) f (by omega) (by rcases c with rfl | rfl | rfl | rfl<;>(subst q;omega)))
  rw [I] at F;refine⟨(iN b),(iN a),tV,fV,(iN p),tV,M2,U,?_,g.trans H,x.trans (y.mono (adH _) (aA _)),λi j r f t G=>?_⟩
  rotate_left
  by_cases hj:j<a;exact (s.out y (.inl (aA _))) i j r f hj G;exact J i j (by rcases c with rfl | rfl | rfl | rfl<;>(subst q;omega)) f t
  rw [l9];try simp at C
  try simp at F
  try simp at z
  try simp at A
  try simp at B
  simp [rP,w,C,A,z,hm,F,B]
 ·refine⟨(iN b),(iN a),tV,fV,(iN p),fV,M1,O,?_,g,x,λi j r f t G=>?_⟩
  rotate_left
  by_cases hj:j<a;exact s i j r f hj G;exact e i j (by rcases c with rfl | rfl | rfl | rfl<;>(subst q;omega)) f t (by rcases c with rfl | rfl | rfl | rfl<;>(subst q;omega))
  rw [l9];try simp at C
  try simp at z
  try simp at A
  try simp at B
  simp [rP,w,C,A,z,hm,B]
theorem KN (w g:Nat)(id n a:Nat)(v:n<=a){M:Mem}{l:List FR}(h:Ar M id l)(hs:SB l a 0 n)(N:Nat)(p d q r f o b:d9):
  ∃e M' l',J5 (λenv m k=>rP (l8 KW g (w+205)) g none env m k) (N+1) (xC (iN a) p (iN n) d (.sliceU id 0 n 32) q (.func (.func 105) [] []) r f o b) M []=some [⟨.exit 2,e,M',[],none⟩]∧nV id M l M' l'∧Mv 0 n l l'∧qN l' 0 n:=by
 refine⟨(xC (iN a) p (iN n) d (.sliceU id 0 n 32) q (.func (.func 105) [] []) fV f o b),M,l,?_,nV.refl h,Mv.refl _ _ _,λi j s t u=>hs i j s t u ?_⟩
 rotate_left
 rw [amR (by omega),amR (by omega)];rw [l9];have c:¬ a<n:=by omega
 simp [rP,c]
theorem Vl (g b:Nat)(j:1000<=b)(id n:Nat)(z:n<=200):∀(t bs:Nat),bs*2^t=320->20<=bs->∀{M:Mem} {l:List FR},Ar M id l->l.length=n->SB l bs 0 n->∀(N:Nat),t<N->∀(x1 c3 x5 c7 c8 m9 c10:d9),
  ∃e M' l',J5 (λenv m k=>rP (l8 KW b (g+205)) b none env m k) N (xC (iN bs) x1 (iN n) c3 (.sliceU id 0 n 32) x5 (.func (.func 105) [] []) c7 c8 m9 c10) M []=some [⟨.exit 2,e,M',[],none⟩]∧nV id M l M' l'∧Mv 0 n l l'∧qN l' 0 n:=by
 intro t;induction t with
 | zero=>intro bs d c M l h o f N y x1 c3 x5 c7 c8 m9 c10;obtain⟨N,rfl⟩:∃M,N=M+1:=⟨N-1,by omega⟩;exact KN g b id n bs (by omega) h f N x1 c3 x5 c7 c8 m9 c10
 | succ t ih=>
  intro bs d c M l h o f N y x1 c3 x5 c7 c8 m9 c10;obtain⟨N,rfl⟩:∃M,N=M+1:=⟨N-1,by omega⟩;by_cases hlt:bs<n;have r:Pw bs:=by
   rw [agS] at d;have A:t<=3:=by apply aCF;intro I;have:=ajJ (n:=2) (by decide) (show 4<=t by omega);have H:20*(2^4*2)<=bs*(2^t*2):=aCm c (U0 _ this);omega
   unfold Pw;match t,A with
   | 0,_=>omega
   | 1,_=>omega
   | 2,_=>omega
   | 3,_=>omega
  obtain⟨C,D,E,F,G,v,M1,J,w,a,p,s⟩:=Px g b j id n bs z r hlt h o f N x1 c3 x5 c7 c8 m9 c10;obtain⟨e,M2,B,x,i,q,u⟩:=ih (2*bs) (by rw [agS] at d;rw [← d];rw [adL 2 bs,Nat.mul_assoc,adL 2]) (by omega) a.ar (a.len.trans o) s N (by omega) C c3 D E F G v;exact⟨e,M2,B,w.trans x,a.trans i,p.trans q,u⟩;exact KN g b id n bs (by omega) h f N x1 c3 x5 c7 c8 m9 c10
theorem afI {M:Mem}{id:Nat}{l:List FR}(h:Ar M id l)(q f:Nat)(k:1000<=f)(h0:0<l.length):
  ∃M' l',l8 KW f (q+206) (.func 184) [.sliceU id 0 l.length 32,(iN (l.length)),(.func (.func 105) [] [])] M=some [⟨.tuple [],M'⟩]∧nV id M l M' l'∧Mv 0 l.length l l'∧qN l' 0 l.length:=by
 have c:=h.big;obtain⟨n,A⟩:∃n,n=l.length:=⟨_,rfl⟩;rw [← A] at h0 c ⊢;obtain⟨a,b,M1,E,F,J,K,L,g,y,B⟩:=Vj q f k id n c n 0 (by omega) (by omega) rfl f (by omega) M l h A.symm (λi j v u w=>by omega) 20 rfl uV uV uV uV uV;have t:=g.len.trans A.symm;have s:∃M2 p,l8 KW f (q+205) (.func 265) [.sliceU id 0 n 32,(iN a),(iN n),(.func (.func 105) [] [])] M1=some [⟨.tuple [],M2⟩]∧nV id M1 E M2 p∧Mv a n E p∧qN p a n:=by by_cases han:a<n;obtain⟨M2,p,r,d,m,o⟩:=WW g.ar (q+200) f k a n han (by omega);rw [t] at r;exact⟨M2,p,r,d,m,o⟩;exact⟨M1,E,Ny M1 (q+204) f k _ _ a n (by omega) (by omega),nV.refl g.ar,Mv.refl _ _ _,λi j v u w=>by omega⟩
 obtain⟨M2,p,r,d,m,o⟩:=s;have D:SB p 20 0 n:=λi j v u w H=>by by_cases hj:j<a;exact (B.out m (.inl (aA _))) i j v u hj H;exact o i j (by omega) u w
 obtain⟨e,M3,I,G,x,z,C⟩:=Vl q f k id n c 4 20 (by decide) (aA _) d.ar (d.len.trans t) D f (by omega) (iN b) fV (iN a) uV uV uV uV;refine⟨M3,I,?_,(g.trans d).trans x,(y.trans (m.mono (adH _) (aA _))).trans z,C⟩;rw [enter (sf:=f184) rfl rfl];simp at F r G;simp [f184,F,r,G]
theorem dn.lenOf {m:Mem}{v:d9}{a:List FR}(h:dn m v a):AM.lenOf v=some a.length:=by rcases h with⟨rfl,rfl⟩ | ⟨id,⟨c,rfl⟩ | rfl,_⟩<;>rfl
def cellsOf (fs:List FR):List (List d9):=fs.map λr=>r.f.cells
theorem tN (a:List FR):∀r,r∈cellsOf a->r.length=32:=λr b=>by obtain⟨x,_,rfl⟩:=acE.1 b;exact G6.len x.f
theorem Sk {a:List FR}(h:∀r,r∈a->r.Good):I7 (cellsOf a).flatten=true:=zH _ λr b=>by obtain⟨x,c,rfl⟩:=acE.1 b;exact (h x c).one
theorem dn.read {m:Mem}{v:d9}{a:List FR}(h:dn m v a):aj m 32 a.length v=some (cellsOf a).flatten:=by
 rcases h with⟨rfl,rfl⟩ | ⟨id,h1,h2,h3⟩;rfl;have d:Y0 m id 0 (Nat.mul a.length 32)=some (cellsOf a).flatten:=by
  rcases h3 with rfl | ⟨c,rows,h4,h5,h6⟩;rfl;cases hn:a.length with
  | zero=>obtain rfl:=abm.1 hn;rfl
  | succ k=>
   have e:Nat.mul (k+1) 32=31+k*32+1:=by show (k+1)*32=_;omega
   rw [e];show aU (m.get id) (λrs g rows=>J7 rs g rows (31+k*32+1) 0)=_;rw [h4,dG];have:=jH (rs:=32) (n:=c) (rows:=rows) (l:=cellsOf a) (tN a) (λi f=>by
    have b:i<a.length:=(by simpa [cellsOf] using f);rw [h6 i b];simp [cellsOf]) (by simpa [cellsOf] using h5) a.length 0 (by simp [cellsOf])
   rw [acL,abR,hn,show (k+1)*32=31+k*32+1 from by omega] at this;exact this
 rcases h1 with⟨c,rfl⟩ | rfl<;>exact d
def Own (m0 m:Mem)(v:d9)(l:List FR):Prop:=Ext m0 m∧
 ((v=nS∧l=[])∨(∃id,v=.slice id 0 0 0∧l=[]∧m0.nx<=id∧id<m.nx)∨∃id,m0.nx<=id∧v=.sliceU id 0 l.length 32∧Ar m id l)
theorem Own.fs {g m:Mem}{v:d9}{l:List FR}(h:Own g m v l):dn m v l:=by obtain⟨_,⟨rfl,rfl⟩ | ⟨id,rfl,rfl,_,a⟩ | ⟨id,_,rfl,a⟩⟩:=h;exact .inl ⟨rfl,rfl⟩;exact .inr ⟨id,.inl ⟨0,rfl⟩,a,.inl rfl⟩;obtain⟨p,o,c,t,j,b,d,k,n,e⟩:=a.fa;refine .inr ⟨id,.inr rfl,a.lt,.inr ⟨c,t,b,by simpa using d,λi f=>?_⟩⟩;rw [e i (by simpa using f)];simp
theorem Own.nil {a m:Mem}(h:Ext a m):Own a m nS []:=⟨h,.inl ⟨rfl,rfl⟩⟩
theorem Own.ext {c m b:Mem}{v:d9}{l:List FR}(h:Own c m v l)(e:Ext m b):Own c b v l:=by obtain⟨d,a⟩:=h;refine⟨d.trans e,?_⟩;rcases a with a | ⟨id,h3,h4,h5,h6⟩ | ⟨id,h3,h4,h5⟩;exact .inl a;exact .inr (.inl ⟨id,h3,h4,h5,aP h6 e.nx⟩);exact .inr (.inr ⟨id,h3,h4,h5.ext e⟩)
theorem Py {n:Nat}(h:n<=200):big n 304 32=true:=by show bi (Nat.ble ((2*n+2048)*304) 281474976710656) true false=true;rw [show Nat.ble ((2*n+2048)*304) 281474976710656=true from qb (by omega)];rfl
theorem ala {m:Mem}(a:m.Ok)(c:m.lim<=m.nx){l:List FR}(b:∀r,r∈l->r.Good)(hb:l.length<=200):Ar (m.new (.cells 32 l.length (T.ofList (cellsOf l)))) m.nx l:=by have:=OE a (rs:=32) (by omega) (tN l);rw [show (cellsOf l).length=l.length from by simp [cellsOf]] at this;exact⟨Mem.Ok.new a _,this,by simp,by simpa using c,b,hb⟩
theorem KO {m:Mem}(l:List FR):grown m 32 l.length (cellsOf l).flatten=some [⟨.sliceU m.nx 0 l.length 32,m.new (.cells 32 l.length (T.ofList (cellsOf l)))⟩]:=by
 have:=Cn (m:=m) (tN l)
 rwa [show (cellsOf l).length=l.length from by simp [cellsOf]] at this
theorem Sl (a b:List FR):(cellsOf (a++b)).flatten=(cellsOf a).flatten++(cellsOf b).flatten:=by simp [cellsOf]
structure Kp (m m':Mem):Prop where
 nx:m.nx<=m'.nx
 old:∀i,i<m.nx->(∀c t,m.get i≠some (.cells 32 c t))->m'.get i=m.get i
theorem Kp.of {m m':Mem}(h:Ext m m'):Kp m m':=⟨h.nx,λi a _=>h.old i a⟩
theorem Kp.trans {a b c:Mem}(h:Kp a b)(k:Kp b c):Kp a c:=⟨nM h.nx k.nx,λi d f=>by
 have e:=h.old i d f;exact (k.old i (aP d h.nx) (λx t=>by rw [e];exact f x t)).trans e⟩
theorem Kp.new {m a:Mem}(h:Kp m a)(c:a.Ok)(b:Z6):Kp m (a.new b):=h.trans (Kp.of ((Ext.refl c).new b))
theorem pz {m b:Mem}(h:Kp m b){v:d9}{xs:List Int}(a:Y9 m v xs):Y9 b v xs:=by rcases a with a | ⟨id,h1,h2,h3⟩;exact .inl a;refine .inr ⟨id,h1,aP h2 h.nx,?_⟩;rcases h3 with h3 | ⟨n,rows,h4,h5,h6⟩;exact .inl h3;exact .inr ⟨n,rows,(h.old id.1 h2 (λc t=>by rw [h4];intro e;cases e)).trans h4,h5,h6⟩
theorem Z4.keep {m c:Mem}(h:Kp m c){r:FR}(k:Z4 m r):Z4 c r:=⟨pz h k.a,pz h k.b,pz h k.l,k.ga,k.gb,k.nb⟩
theorem Yt {j m:Mem}{v:d9}{l a:List FR}(A:j.lim<=j.nx)(h:Own j m v l)(H:∀r,r∈a->r.Good)(hb:l.length+a.length<=200):
  ∃v' m',kT m 32 304 a.length (cellsOf a).flatten v=some [⟨v',m'⟩]∧Own j m' v' (l++a)∧Kp m m':=by
 obtain⟨d,h⟩:=h;have J:m.lim<=m.nx:=by rw [d.lim];exact nM A d.nx
 have L:∀{M:Mem},Ext j M->j.nx<=M.nx->∀(k:List FR),(∀r,r∈k->r.Good)->k.length<=200->Own j (M.new (.cells 32 k.length (T.ofList (cellsOf k)))) (.sliceU M.nx 0 k.length 32) k:=λ{M} hM I k q hkb=>⟨hM.new _,.inr (.inr ⟨M.nx,I,rfl,ala hM.ok (by rw [hM.lim];exact nM A I) q hkb⟩)⟩;by_cases hf:a=[];subst hf;refine⟨v,m,?_,⟨d,by simpa using h⟩,Kp.of (Ext.refl d.ok)⟩;rcases h with⟨rfl,rfl⟩ | ⟨id,rfl,rfl,_,_⟩ | ⟨id,_,rfl,_⟩<;>rfl
 obtain⟨k,q⟩:∃k,a.length=k+1:=⟨a.length-1,by have:=abY.2 hf;omega⟩;rcases h with⟨rfl,rfl⟩ | ⟨id,rfl,rfl,_,_⟩ | ⟨id,hid,rfl,ha⟩;refine⟨_,_,?_,L d d.nx a H (by simpa using hb),Kp.of ((Ext.refl d.ok).new _)⟩;rw [← KO a];show IY m 32 304 a.length _=_;rw [q];show bi (big (k+1) 304 32) _ none=_;rw [Py (by simp at hb;omega)];rfl;refine⟨_,_,?_,L d d.nx a H (by simpa using hb),Kp.of ((Ext.refl d.ok).new _)⟩;rw [← KO a];show iI m 32 304 a.length _ id 0 0 0=_;unfold iI;rw [show Nat.add 0 a.length=a.length from W9 _,show Nat.ble a.length 0=false from by rw [q];rfl,bA,Py (by simp at hb;omega),aH];rfl;have u:∀r,r∈l++a->r.Good:=λr K=>by rcases O5.1 K with h | h;exact ha.good r h;exact H r h
 have P:Ext j (m.set id .dead):=d.set ha.lt hid _;have w:∀b,Kp m ((m.set id .dead).new b):=λb=>Kp.new ⟨by simp,λi Q I=>by
  rw [Mem.U6 ha.ok ha.lt,if_neg];rintro rfl;obtain⟨_,_,c,t,E,F,_⟩:=ha.fa;exact I c t F⟩ (Mem.Ok.set ha.ok ha.lt _) b
 have z:(l++a).length=l.length+a.length:=by simp
 obtain⟨p,S,c,t,E,F,N,W,G,O⟩:=ha.fa;have s:l.length<=c:=by simpa using N
 have y:Nat.ble m.lim id=true:=qb ha.lim;have R:=Sk H;by_cases h1k:a.length=1;obtain⟨x,rfl⟩:∃x,a=[x]:=amD.1 h1k;have D:(cellsOf [x]).flatten=x.f.cells:=by simp [cellsOf]
 refine⟨.sliceU m.nx 0 (l.length+1) 32,(m.set id .dead).new (.cells 32 (l.length+1) (t.put l.length x.f.cells)),?_,⟨P.new _,.inr (.inr ⟨m.nx,d.nx,by simp,?_⟩)⟩,w _⟩;show mW m 32 304 1 _ id 0 l.length 32=_;show bi (Nat.beq 32 32) (bi (big (l.length+1) 304 32) (bi (Nat.ble m.lim id) (bi (I7 (cellsOf [x]).flatten) (uL (m.get id) _ _) none) none) none) none=_;rw [Py (by simp at hb;omega),y,R,F];show bi (bi (Nat.beq 32 32) (bi (Nat.beq 0 0) (bi (Nat.ble l.length c) (bi (Nat.beq 1 1) (Nat.beq (len' (cellsOf [x]).flatten) 32) false) false) false) false) _ _=_;rw [show Nat.ble l.length c=true from qb s,D,K7,G6.len];rfl;refine⟨Mem.Ok.new (Mem.Ok.set ha.ok ha.lt _) _,⟨by omega,λr K=>tN _ r K,l.length+1,t.put l.length x.f.cells,?_⟩,by simp,by simpa using J,u,by simp at hb ⊢;omega⟩;have B:∃c'',l.length+1<=c''∧T.Ok (t.put l.length x.f.cells) c'':=by
  by_cases hc:l.length<E;exact⟨E,hc,T.Ok.put G _ _ hc⟩;obtain rfl:E=l.length:=by omega
  exact⟨l.length+1,aA _,T.Ok.push G _⟩
 obtain⟨c'',U,V⟩:=B;refine⟨c'',by rw [Mem.P5 (Mem.Ok.set ha.ok ha.lt _)];simp,by simp,U,V,λi Q=>?_⟩;by_cases hil:i=l.length;subst hil;rw [T.aW G _ _ (by omega)];simp;have g:i<l.length:=by simp at Q;omega
 rw [T.bV G _ _ _ (by omega) (ajw hil),O i (by simpa using g)];simp [adI,g];refine⟨_,_,?_,L P (by simpa using d.nx) (l++a) u (by simpa using hb),w _⟩;have C:=jH (rs:=32) (n:=c) (rows:=t) (l:=l.map λr=>r.f.cells) S O N l.length 0 (by simp);rw [acL,abR] at C;rw [← KO (l++a),z,Sl];show mW m 32 304 a.length _ id 0 l.length 32=_;unfold mW;rw [q];show bi (Nat.beq 32 32) (bi (big (l.length+(k+1)) 304 32) (bi (Nat.ble m.lim id) (bi (I7 (cellsOf a).flatten) (uL (m.get id) _ _) none) none) none) none=_;rw [Py (by omega),y,R,F];show bi (bi (Nat.beq 32 32) (bi (Nat.beq 0 0) (bi (Nat.ble l.length c) (bi (Nat.beq (k+1) 1) (Nat.beq (len' (cellsOf a).flatten) 32) false) false) false) false) _ (ob (J7 32 c t (Nat.mul l.length 32) 0) λo=>grown (m.set id .dead) 32 (Nat.add l.length (k+1)) (cZ o (cellsOf a).flatten))=_;rw [show Nat.ble l.length c=true from qb s,show Nat.beq (k+1) 1=false from aaD.2 λe=>h1k (by rw [q];exact l7 e)];rw [show Nat.mul l.length 32=l.length*32 from rfl,show Nat.add l.length (k+1)=l.length+(k+1) from rfl];show ob (J7 32 c t (l.length*32) 0) (λo=>grown (m.set id .dead) 32 (l.length+(k+1)) (cZ o (cellsOf a).flatten))=_;rw [C,I9,V8];rfl
theorem Sn {b m:Mem}{v x:d9}{l a:List FR}(c:b.lim<=b.nx)(h:Own b m v l)(e:dn m x a)(j:∀r,r∈a->r.Good)(hb:l.length+a.length<=200):
  ∃v' m',(∀(s y:OF) (cf:H7) (ls:List d9) (env:T d9),s ls env=v->y ls env=x->lu 32 304 s y cf ls env m=some [⟨v',m'⟩])∧Own b m' v' (l++a)∧Kp m m':=by
 obtain⟨v',m',f,g,i⟩:=Yt c h j hb;refine⟨v',m',λs y cf ls env k o=>?_,g,i⟩;show ob (AM.lenOf (y ls env)) (λn=>ob (aj m 32 n (y ls env)) λd=>kT m 32 304 n d (s ls env))=_;rw [o,k,e.lenOf,I9,e.read,I9,f]
theorem afJ {m:Mem}{v:d9}{fs:List FR}(f:m.Ok)(h:m.lim<=m.nx)(k:dn m v fs)(p:∀r,r∈fs->r.Good)(hb:fs.length<=200)(n l:Nat):
  ∃v' m',l8 KW l (n+1) (.func 103) [v] m=some [⟨v',m'⟩]∧Own m m' v' fs:=by
 rw [enter (sf:=f103) rfl rfl];have j:∀z ls env nid,I8 32 0 z [] ls env nid=some (.slice nid 0 0 0,some (.cells 32 0 (T.ofList []))):=λ_ _ _ _=>rfl;have E:=r9 f [.cells 32 0 (T.ofList [])];have o:Own m (ext m [.cells 32 0 (T.ofList [])]) (.slice m.nx 0 0 0) []:=⟨E,.inr (.inl ⟨m.nx,rfl,rfl,aA _,by simp⟩)⟩;obtain⟨v',m',i,g,_⟩:=Sn h o (k.ext E) p (by simpa using hb);rw [aaE] at g;rcases k with⟨rfl,rfl⟩ | ⟨id,⟨c,rfl⟩ | rfl,h2⟩;refine⟨nS,m,?_,Own.nil (Ext.refl f)⟩;have e:dY nS nS=some true:=rfl;simp [f103,bD f h,A8,e];refine⟨v',m',?_,g⟩;have e:∀a b c d,dY (.slice a b c d) nS=some false:=λ_ _ _ _=>rfl;simp [f103,bD f h,A8,e,j,i,g.fs.aY];refine⟨v',m',?_,g⟩;have e:∀a b c d,dY (.sliceU a b c d) nS=some false:=λ_ _ _ _=>rfl;simp [f103,bD f h,A8,e,j,i,g.fs.aY]
theorem dn.nil {m:Mem}{v:d9}(h:dn m v []):xE v (some (d9.int .i64 0)) (λ_ _ n _=>some (iV n)) (λ_ _ n _=>some (iV n))=some iZ:=h.len
theorem afK {o m:Mem}{v:d9}{l:List FR}(h:Own o m v l)(n e:Nat)(b:1000<=e):
  ∃m' l',l8 KW e (n+207) (.func 104) [v,(.func (.func 105) [] [])] m=some [⟨.tuple [],m'⟩]∧Own o m' v l'∧Mv 0 l.length l l'∧l'.length=l.length∧qN l' 0 l.length:=by
 rw [enter (sf:=f104) rfl rfl];have a:=h.fs.len;have d:=λ(hl:l=[])=>abJ m (n+204) e b v (.func (.func 105) [] []);by_cases hl:l=[];refine⟨m,l,?_,h,Mv.refl _ _ _,rfl,by rw [hl];exact λi j _ _ h=>by simp at h⟩;subst hl;have g:=d rfl;simp at a g;simp [f104,a,g];obtain⟨q,⟨rfl,k⟩ | ⟨id,rfl,k,_,_⟩ | ⟨id,c,rfl,p⟩⟩:=h;exact absurd k hl;exact absurd k hl;obtain⟨m',l',g,f,r,s⟩:=afI p n e b (abY.2 hl);refine⟨m',l',?_,⟨q.qp f.ext c,.inr (.inr ⟨id,c,by rw [f.len],f.ar⟩)⟩,r,f.len,s⟩;simp [f104,g]
theorem Vm {x y:FR}(a:x.Good)(b:y.Good):x.KL y=true↔x.key=y.key:=by have c:-9223372036854775808<=x.f.no∧x.f.no<9223372036854775808:=a.no;have d:-9223372036854775808<=y.f.no∧y.f.no<9223372036854775808:=b.no;simp only [FR.KL,rW,decide_eq_true_eq,FR.key];omega
theorem KP {x y:FR}(a:x.Good)(b:y.Good):x.KL y=decide (x.key=y.key):=by rw [acB,Vm a b];simp
structure Dp (l0:List FR)(p:Nat)(l:List FR)(k:Nat):Prop where
 st:∀i j,i<j->j<k->dw l i<dw l j
 pos:0<k
 top:dw l (k-1)=dw l0 (p-1)
 sub:∀i,i<k->∃j,j<p∧l[i]?=l0[j]?
 cov:∀j,j<p->∃i,i<k∧dw l i=dw l0 j
theorem Dp.skip {a l:List FR}{p k:Nat}(h:Dp a p l k)(hp:0<p)(b:dw a p=dw a (p-1)):Dp a (p+1) l k:=
 ⟨h.st,h.pos,by rw [h.top,show p+1-1=p from by omega,b],λi c=>by
  obtain⟨j,f,d⟩:=h.sub i c;exact⟨j,by omega,d⟩,λj e=>by
  by_cases hjp:j<p;exact h.cov j hjp;obtain rfl:j=p:=by omega
  rw [b];exact h.cov _ (by omega)⟩
theorem Dp.take {a l:List FR}{p k:Nat}(h:Dp a p l k)(hp:0<p)(n:k<l.length)(e:p<a.length)(q:dw a (p-1)<dw a p):Dp a (p+1) (l.set k a[p]) (k+1):=by
 have o:=h.pos;have d:(l.set k a[p])[k]?=a[p]?:=by rw [amE,if_pos rfl,if_pos n];simp [e]
 have c:∀i,i<k->(l.set k a[p])[i]?=l[i]?:=λi g=>by rw [amE,if_neg (by omega)]
 have f:∀i,i<k->dw l i<=dw l (k-1):=λi g=>by by_cases h':i=k-1;rw [h'];exact aCT _;exact aCJ (h.st i (k-1) (by omega) (by omega))
 refine⟨λi j b m=>?_,by omega,?_,λi g=>?_,λj m=>?_⟩;by_cases hjk:j=k;subst hjk;rw [jP (c i b),jP d];have:=f i b;rw [h.top] at this;omega;rw [jP (c i (by omega)),jP (c j (by omega))];exact h.st i j b (by omega);rw [show k+1-1=k from by omega,show p+1-1=p from by omega];exact jP d;by_cases hik:i=k;subst hik;exact⟨p,by omega,d⟩;obtain⟨j,u,t⟩:=h.sub i (by omega);exact⟨j,by omega,(c i (by omega)).trans t⟩;by_cases hjp:j=p;subst hjp;exact⟨k,by omega,jP d⟩;obtain⟨i,r,s⟩:=h.cov j (by omega);exact⟨i,by omega,(jP (c i r)).trans s⟩
theorem Vn (n0 O:Nat)(a0:1000<=O)(id n nn o:Nat)(hn:n<=200)(T:nn+o=n)(b:List FR)(a1:b.length=n)(j:qN b 0 n)(c1 y3 y5 K:d9):
  ∀(s t:Nat),t+s=nn->0<t->∀(N:Nat),s<N->∀(M:Mem) (l:List FR) (k:Nat),Ar M id l->l.length=n->k<o+t->(∀x,o+t<=x+1->l[x]?=b[x]?)->Dp b (o+t) l k->∀(y8 y9:d9),
   ∃k' z9 M' l',J5 (λenv m k=>Cq (l8 KW O (n0+4)) O none env m k) N (xC (.sliceU id 0 n 32) c1 (iN k) y3 (.func (.func 108) [] []) y5 (iN t) (.sliceU id (o*32) nn 32) y8 y9 K) M []=some [⟨.exit 2,(xC (.sliceU id 0 n 32) c1 (iN k') y3 (.func (.func 108) [] []) y5 (iN nn) (.sliceU id (o*32) nn 32) fV z9 K),M',[],none⟩]∧nV id M l M' l'∧k'<n∧Dp b n l' k':=by
 intro s;induction s with
 | zero=>
  intro t ht h0 N hN M l k h S hk v z y8 y9;obtain⟨N,rfl⟩:∃M,N=M+1:=⟨N-1,by omega⟩;obtain rfl:t=nn:=by omega
  refine⟨k,y9,M,l,?_,nV.refl h,by omega,by rw [← T,ayh];exact z⟩;rw [l9];simp [Cq]
 | succ s ih=>
  intro t ht h0 N hN M l k h S hk v z y8 y9;obtain⟨N,rfl⟩:∃M,N=M+1:=⟨N-1,by omega⟩;obtain⟨p,U⟩:∃p,p=o+t:=⟨_,rfl⟩;obtain⟨u,hu⟩:∃u,u+1=t:=⟨t-1,by omega⟩;obtain⟨q,hq⟩:∃q,q+1=p:=⟨p-1,by omega⟩;rw [← U] at z hk v;have a:p<l.length:=by omega
  have i:q<l.length:=by omega
  have C:p<b.length:=by omega
  have I:q<b.length:=by omega
  have L:l[p]=b[p]:=by have:=v p (by omega);simpa [a,C] using this
  have w:l[q]=b[q]:=by have:=v q (by omega);simpa [i,I] using this
  obtain⟨M1,g1,E1⟩:=WT h.ok h.lm n0 O (h.get a) (h.get i);have R:=h.ext E1;have Y:=h.fa.ld a;have Z:=h.fa.ld i;have r3:=R.fa.ld a;have z1:=(h.get a).rf;have z2:=(h.get i).rf;rw [show p*32=o*32+t*32 from by omega] at Y r3;rw [show q*32=o*32+u*32 from by omega] at Z;have d:=KP (h.get a) (h.get i);rw [L,w] at d;rw [← kZ C,← kZ I] at d;have i1:∀{β:Type} (f:Nat->Option β),idx nn (iV (t:Int)) f=f t:=λf=>au _ _ f (by omega);have i2:∀{β:Type} (f:Nat->Option β),idx nn (iV (u:Int)) f=f u:=λf=>au _ _ f (by omega);have e2:=wN hu (by omega);obtain⟨P,D⟩:∃P,P=t+1:=⟨_,rfl⟩;have e3:=ak D (by omega);have J:t<nn:=by omega
  have A:=h.get a;cases hb:decide (dw b p=dw b q) with
  | true=>
   rw [hb] at d;obtain⟨k',z9,M',l',g,E,B,e⟩:=ih P (by omega) (by omega) N (by omega) M1 l k R S (by omega) (λx W=>v x (by omega)) (by
    rw [D,← S9,← U];exact z.skip (by omega) (by rw [show p-1=q from by omega];simpa using hb)) tV fV
   refine⟨k',z9,M',l',?_,(nV.of h E1).trans E,B,e⟩;rw [L,w] at *;generalize b[p]=x at *;generalize b[q]=y at *;clear ih z e v E hb j;rw [l9,← g];simp [Cq,J,e2,e3,i1,i2,Y,Z,z1,z2,g1,d]
  | false=>
   rw [hb] at d;have H:k<l.length:=by omega
   obtain⟨M2,s1,Q,x2⟩:=R.store H A;have F:nV id M l M2 (l.set k l[p]):=(nV.of h E1).trans ⟨x2,Q,by simp,λr V=>by
    rcases ae0 V with V | rfl;exact V;exact M8 a⟩
   obtain⟨X,G⟩:∃X,X=k+1:=⟨_,rfl⟩;have e4:=ak G (by omega);obtain⟨k',z9,M',l',g,E,B,e⟩:=ih P (by omega) (by omega) N (by omega) M2 (l.set k l[p]) X Q (by simpa using S) (by omega) (λx W=>by
    rw [amE,if_neg (by omega)];exact v x (by omega)) (by
    rw [D,← S9,← U,G,L];have c:=j q p (by omega) (by omega) (by omega);have c':¬ dw b p=dw b q:=(by simpa using hb);exact z.take (by omega) H C (by rw [show p-1=q from by omega];omega)) tV tV
   refine⟨k',z9,M',l',?_,F.trans E,B,e⟩;have i3:∀{β:Type} (f:Nat->Option β),idx n (iV (k:Int)) f=f k:=λf=>au _ _ f (by omega);rw [L,w] at *;generalize b[p]=x at *;generalize b[q]=y at *;clear ih z e v E hb j F Q x2;rw [l9,← g];simp [Cq,J,e2,e3,e4,i1,i2,i3,Y,Z,r3,z1,z2,g1,d,s1,G6.len]
theorem Sq {id n k:Nat}(b:k<n)(x a:OF)(ls:List d9)(env:T d9)(nid:Nat)(d:x ls env=.sliceU id 0 n 32)(c:a ls env=iV (k:Int)):PU 32 x (some a) none ls env nid=some (.sliceU id (k*32) (n-k) 32,none):=by show jL (a ls env) (λl=>K6 nid 32 (x ls env) l none)=_;rw [c,d,lN,jB];show bi (Nat.ble k n) (bi (Nat.ble n n) (bi (Nat.beq 32 32) (bi (Nat.blt k n) (some (d9.sliceU id (Nat.add 0 (Nat.mul k 32)) (Nat.sub n k) 32,(none:Option Z6))) _) none) none) none=_;rw [show Nat.ble k n=true from qb (ae1 b),show Nat.ble n n=true from qb (aA _),show Nat.blt k n=true from O6.mpr b,show Nat.add 0 (Nat.mul k 32)=k*32 from W9 _];rfl
theorem alb {id n k:Nat}(c:k<=n)(d:0<n)(x a:OF)(ls:List d9)(env:T d9)(nid:Nat)(e:x ls env=.sliceU id 0 n 32)(b:a ls env=iV (k:Int)):PU 32 x none (some a) ls env nid=some (.sliceU id 0 k 32,none):=by show jL (a ls env) (λh=>K6 nid 32 (x ls env) 0 (some h))=_;rw [b,e,lN,jB];show bi (Nat.ble 0 k) (bi (Nat.ble k n) (bi (Nat.beq 32 32) (bi (Nat.blt 0 n) (some (d9.sliceU id (Nat.add 0 (Nat.mul 0 32)) (Nat.sub k 0) 32,(none:Option Z6))) _) none) none) none=_;rw [show Nat.ble 0 k=true from qb (adH _),show Nat.ble k n=true from qb c,show Nat.blt 0 n=true from O6.mpr d];rfl
theorem Yu (z:List d9)(x:OF)(cf:H7)(ls:List d9)(env:T d9)(m:Mem):qY z x cf ls env m=xE (x ls env) (some [⟨.tuple [],m⟩]) (λid off len _=>gI m id off (Q8 z len) λm'=>some [⟨.tuple [],m'⟩])
  (λid off len _=>gI m id off (Q8 z len) λm'=>some [⟨.tuple [],m'⟩]):=id rfl
structure Dd (l l':List FR):Prop where
 st:∀i j,i<j->j<l'.length->dw l' i<dw l' j
 sub:∀r,r∈l'->r∈l
 cov:∀r,r∈l->∃s,s∈l'∧s.key=r.key
theorem Dd.of {d l:List FR}{k:Nat}(u:l.length=d.length)(t:k<=l.length)(h:Dp d d.length l k):Dd d (l.take k):=by
 have e:∀i,i<k->(l.take k)[i]?=l[i]?:=λi a=>by rw [adP,if_pos a]
 refine⟨λi j g f=>?_,λr m=>?_,λr m=>?_⟩;have c:j<k:=by simp at f;omega
 rw [jP (e i (by omega)),jP (e j c)];exact h.st i j g c;obtain⟨i,a,rfl⟩:=alQ m;have b:i<k:=by simp at a;omega
 obtain⟨j,q,s⟩:=h.sub i b;have n:(l.take k)[i]?=d[j]?:=(e i b).trans s;rw [cB a,cB q] at n;rw [su n];exact M8 _;obtain⟨j,f,rfl⟩:=alQ m;obtain⟨i,o,p⟩:=h.cov j f;have a:i<(l.take k).length:=by simp;omega
 refine⟨(l.take k)[i],M8 a,?_⟩;rw [← kZ a,jP (e i o),p,kZ f]
theorem Dd.self {l:List FR}(h:∀i j,i<j->j<l.length->dw l i<dw l j):Dd l l:=⟨h,λ_ h=>h,λr a=>⟨r,a,rfl⟩⟩
theorem Ar.clear {m:Mem}{id:Nat}{l:List FR}(h:Ar m id l){k:Nat}(d:k<=l.length)(z:List d9)(i:z.length=32)(e:I7 z=true):
  ∃m',(∀{β:Type} (f:Mem->Option β),gI m id (k*32) (Q8 z (l.length-k)) f=f m')∧Ar m' id (l.take k)∧dh id m m':=by
 obtain⟨m',c,b,a⟩:=AX.clear (vs:=Q8 z (l.length-k)) h.fa h.ok h.lt h.lim (k:=k) (by simpa using d) (by
  rw [GY,i,adN,← adS];exact U0 _ (by omega)) (GZ e _)
 rw [← aAA] at b;exact⟨m',c,⟨a.ok,b,aP h.lt a.nx,by rw [a.lim];exact h.lim,λr g=>h.good r (acF g),by simp;have:=h.big;omega⟩,a⟩
theorem Vo (R v:Nat)(H:1000<=v)(id n:Nat)(hn:n<=200)(l:List FR)(D:l.length=n)(d:qN l 0 n)(E:d9):
  ∀(s k:Nat),k+s=n->0<k->∀(N:Nat),s<N->∀(M:Mem),Ar M id l->(∀i j,i<j->j<k->dw l i<dw l j)->∀(y3 y5:d9),
   ∃x k' z3 z5 z6 z7 z8 z9 v10 M',J5 (λenv m k=>FU (l8 KW v (R+4)) v none env m k) N (xC (.sliceU id 0 n 32) E (iN k) y3 (.func (.func 108) [] []) y5 uV uV uV uV nS) M []=some [⟨x,(xC (.sliceU id 0 n 32) E (iN k') z3 (.func (.func 108) [] []) z5 z6 z7 z8 z9 v10),M',[],none⟩]∧
    ((x=.exit 0∧Ext M M'∧(∀i j,i<j->j<n->dw l i<dw l j))∨(x=.ret∧∃l',v10=.sliceU id 0 l'.length 32∧dh id M M'∧Ar M' id l'∧Dd l l')):=by
 intro s;induction s with
 | zero=>
  intro k hk V N hN M h b y3 y5;obtain⟨N,rfl⟩:∃M,N=M+1:=⟨N-1,by omega⟩;obtain rfl:k=n:=by omega
  refine⟨.exit 0,k,fV,y5,uV,uV,uV,uV,nS,M,?_,.inl ⟨rfl,Ext.refl h.ok,b⟩⟩;rw [l9];simp [FU]
 | succ s ih=>
  intro k hk V N hN M h b y3 y5;obtain⟨N,rfl⟩:∃M,N=M+1:=⟨N-1,by omega⟩;obtain⟨q,hq⟩:∃q,q+1=k:=⟨k-1,by omega⟩;have e:k<l.length:=by omega
  have p:q<l.length:=by omega
  obtain⟨M1,U,E1⟩:=WT h.ok h.lm R v (h.get e) (h.get p);have W:=h.ext E1;have r1:=h.fa.ld e;have r2:=h.fa.ld p;have z1:=(h.get e).rf;have z2:=(h.get p).rf;have o:=KP (h.get e) (h.get p);rw [← kZ e,← kZ p] at o;have Y:∀{β:Type} (f:Nat->Option β),idx n (iV (k:Int)) f=f k:=λf=>au _ _ f (by omega);have Z:∀{β:Type} (f:Nat->Option β),idx n (iV (q:Int)) f=f q:=λf=>au _ _ f (by omega);have T:=wN hq (by omega);obtain⟨P,J⟩:∃P,P=k+1:=⟨_,rfl⟩;have e3:=ak J (by omega);have t:k<n:=by omega
  cases hb:decide (dw l k=dw l q) with
  | false=>
   rw [hb] at o;have B:dw l q<dw l k:=by have c:=d q k (by omega) (by omega) (by omega);have c':¬ dw l k=dw l q:=(by simpa using hb);omega
   obtain⟨x,k',z3,z5,z6,z7,z8,z9,v10,M',g,r⟩:=ih P (by omega) (by omega) N (by omega) M1 W (λi j I hj=>by
    by_cases hjk:j=k;subst hjk;by_cases hiq:i=q;rw [hiq];exact B;exact Int.lt_trans (b i q (by omega) (by omega)) B;exact b i j I (by omega)) tV fV
   refine⟨x,k',z3,z5,z6,z7,z8,z9,v10,M',?_,?_⟩;generalize l[k]=x at *;generalize l[q]=y at *;clear ih r b d hb;rw [l9,← g];simp [FU,t,T,e3,Y,Z,r1,r2,z1,z2,U,o];rcases r with⟨h1,h2,h3⟩ | ⟨h1,l',h2,h3,h4⟩;exact .inl ⟨h1,E1.trans h2,h3⟩;exact .inr ⟨h1,l',h2,E1.toB.trans h3,h4⟩
  | true=>
   rw [hb] at o;have G:dw l k=dw l q:=by simpa using hb
   obtain⟨u,O⟩:∃u,u+k=n:=⟨n-k,by omega⟩;obtain⟨k',z9,M2,Q,F,C,A,X⟩:=Vn R v H id n u k hn O l D d E tV tV nS (u-1) 1 (by omega) (by omega) v (by omega) M1 l k W D (by omega) (λ_ _=>rfl)
    ⟨b,V,by rw [show k-1=q from by omega,show k+1-1=k from by omega,G],λi hi=>⟨i,by omega,rfl⟩,λj hj=>by
     by_cases hjk:j<k;exact⟨j,hjk,rfl⟩;obtain rfl:j=k:=(by omega);exact⟨q,by omega,G.symm⟩⟩ uV uV
   have K:=C.len.trans D;have w:∀(z:List d9),z.length=32->I7 z=true->∃m',(∀{β:Type} (f:Mem->Option β),gI M2 id (k'*32) (Q8 z (n-k')) f=f m')∧Ar m' id (Q.take k')∧dh id M2 m':=λz hz ho=>by
    have:=C.ar.clear (k:=k') (by omega) z hz ho
    rwa [K] at this
   have sF:=λ(x a:OF) ls env nid r ha=>Sq (id:=id) t x a ls env nid r ha;have S:=λ(x a:OF) ls env nid r ha=>Sq (id:=id) A x a ls env nid r ha;have sT:=λ(x a:OF) ls env nid r ha=>alb (id:=id) (ae1 A) (by omega:0<n) x a ls env nid r ha;obtain⟨M3,w1,w2,w3⟩:=w [iZ,iZ,iZ,iZ,iZ,iZ,iZ,iZ,iZ,iZ,iZ,iZ,iZ,iZ,iZ,iZ,iZ,iZ,iZ,iZ,iZ,iZ,nS,nS,iZ,iZ,iZ,iZ,iZ,nS,iZ,iZ] rfl rfl;have L:(Q.take k').length=k':=by simp;omega
   refine⟨.ret,k',tV,tV,(iN u),(.sliceU id (k*32) u 32),fV,z9,.sliceU id 0 k' 32,M3,?_,.inr ⟨rfl,Q.take k',by rw [L],(E1.toB.trans C.ext).trans w3,w2,Dd.of (by omega) (by omega) (by rw [D];exact X)⟩⟩;rw [show n-k=u from by omega] at sF;dsimp only [iN] at F;rw [show ((1:Nat):Int)=1 from rfl] at F;generalize l[k]=x at *;generalize l[q]=y at *;clear ih b d hb X C w w2 w3 G;rw [l9];simp [FU,t,T,Y,Z,r1,r2,z1,z2,U,o,sF,S,sT,F,Yu,w1]
theorem afL {p m:Mem}{v:d9}{l:List FR}(h:Own p m v l)(hs:qN l 0 l.length)(q d:Nat)(k:1000<=d):
  ∃v' m' l',l8 KW d (q+5) (.func 107) [v,(.func (.func 108) [] [])] m=some [⟨v',m'⟩]∧Own p m' v' l'∧Dd l l':=by
 rw [enter (sf:=f107) rfl rfl];have c:=h.fs.len;by_cases h2:l.length<2;refine⟨v,m,l,?_,h,Dd.self λi j n r=>by omega⟩;have a:(l.length:Int)<2:=by omega
 simp [f107,c,a];have a:¬ (l.length:Int)<2:=by omega
 obtain⟨o,⟨rfl,f⟩ | ⟨id,rfl,f,_,_⟩ | ⟨id,b,rfl,e⟩⟩:=h;subst f;simp at h2;subst f;simp at h2;obtain⟨x,u,w,y,z,A,B,C,t,M',g,s⟩:=Vo q d k id l.length e.big l rfl hs fV (l.length-1) 1 (by omega) (by omega) d (by have:=e.big;omega) m e (λi j n r=>by omega) uV uV;dsimp only [iN] at g;rw [show ((1:Nat):Int)=1 from rfl] at g;rcases s with⟨rfl,hE,hst⟩ | ⟨rfl,l',rfl,hE,hA,hd⟩;refine⟨.sliceU id 0 l.length 32,M',l,?_,⟨o.trans hE,.inr (.inr ⟨id,b,rfl,e.ext hE⟩)⟩,Dd.self hst⟩;simp [f107,a,g];refine⟨.sliceU id 0 l'.length 32,M',l',?_,⟨o.qp hE b,.inr (.inr ⟨id,b,rfl,hA⟩)⟩,hd⟩;simp [f107,a,g]
theorem Dd.mv {l l1 l2:List FR}(o:l1.length=l.length)(e:Mv 0 l.length l l1)(h:Dd l1 l2):Dd l l2:=by
 have d:∀r,r∈l1->r∈l:=λr a=>by obtain⟨i,b,rfl⟩:=alQ a;obtain⟨j,_,n,f⟩:=e.inn i (adH _) (by omega);rw [cB b,cB n] at f;rw [su f];exact M8 _
 have c:∀r,r∈l->r∈l1:=λr a=>by
  obtain⟨i,b,rfl⟩:=alQ a;obtain⟨k,_,p,g⟩:=e.bak i (adH _) b;have m:k<l1.length:=by omega
  rw [cB b,cB m] at g;rw [← su g];exact M8 _
 exact⟨h.st,λr a=>d r (h.sub r a),λr a=>h.cov r (c r a)⟩
theorem alc {m:Mem}{v:d9}{d:List FR}(q:m.Ok)(p:m.lim<=m.nx)(s:dn m v d)(o:∀r,r∈d->r.Good)(hb:d.length<=200)(e a:Nat)(b:1000<=a):
  ∃v' m' l',l8 KW a (e+208) (.func 66) [v] m=some [⟨v',m'⟩]∧Own m m' v' l'∧Dd d l':=by
 obtain⟨B,z,j,h⟩:=afJ q p s o hb (e+206) a;obtain⟨A,y,k,w,f,c,g⟩:=afK h e a b;rw [← c] at g;obtain⟨x,u,t,l,i,n⟩:=afL w g (e+202) a b;refine⟨x,u,t,?_,i,n.mv c f⟩;rw [enter (sf:=f66) rfl rfl];simp [f66,j,k,l,h.fs.aY,i.fs.aY]
theorem qO {M:Mem}{id off:Nat}{c:List d9}(b:M.Ok)(a:id<M.nx)(h:M.lim<=id)(g:M.get id=some (j5 c))(d:off<c.length){v:d9}(e:A8 v=true):
  ∃N,(∀{β:Type} (k:Mem->Option β),storeAt M id off [v] k=k N)∧N.get id=some (j5 (c.set off v))∧dh id M N:=by
 refine⟨M.set id (j5 (c.set off v)),λk=>?_,by rw [Mem.U6 b a,if_pos rfl],Mem.Ok.set b a _,by simp,rfl,λj l i=>by rw [Mem.U6 b a,if_neg i]⟩;have f:I7 [v]=true:=by show bi (A8 v) true false=true;rw [e];rfl
 rw [bW h f,g,aB (by simp;omega) d,I9];congr 2;rw [azS,if_pos d];rfl
theorem qP {M:Mem}{id:Nat}{c vs:List d9}(b:M.Ok)(a:id<M.nx)(f:M.lim<=id)(e:M.get id=some (j5 c))(h:c.length=vs.length)(h0:0<vs.length)(d:I7 vs=true):
  ∃N,(∀{β:Type} (k:Mem->Option β),storeAt M id 0 vs k=k N)∧N.get id=some (j5 vs)∧dh id M N:=by
 refine⟨M.set id (j5 vs),λk=>?_,by rw [Mem.U6 b a,if_pos rfl],Mem.Ok.set b a _,by simp,rfl,λj i g=>by rw [Mem.U6 b a,if_neg g]⟩;rw [bW f d,e,aB (by omega) (by omega),I9];congr 2;rw [akx,zu (by omega)];simp
structure Cp (r r':FR):Prop where
 a:r'.a=r.a
 b:r'.b=r.b
 l:r'.l=r.l
 f:∃va vb vl,r'.f={r.f with A:=va,B:=vb,L:=vl}
theorem Gl {M N:Mem}{id:Nat}{c:List d9}(a:c.length=32)(b:M.get id=some (j5 c))(X:dh id M N):Kp M N:=⟨X.nx,λi d f=>by
 by_cases h:i=id;subst h;have e:j5 c=.cells 32 1 (.nd .e c .e):=by show Z6.cells (len' c) 1 (.nd .e c .e)=_;rw [K7,a]
 exact absurd (by rw [b,e]) (f 1 (.nd .e c .e));exact X.old i d h⟩
theorem abK {m:Mem}{r:FR}(t:m.Ok)(s:m.lim<=m.nx)(g:Z4 m r)(hs:r.short)(w k:Nat)(a0:1000<=k):
  ∃r' m',l8 KW k (w+2) (.func 98) [.agg r.f.cells] m=some [⟨.agg r'.f.cells,m'⟩]∧Ext m m'∧Z4 m' r'∧Cp r r':=by
 obtain⟨y,C,D⟩:=hs;obtain⟨z,K⟩:∃z:List d9,z=[iZ,iZ,iZ,iZ,iZ,iZ,iZ,iZ,iZ,iZ,iZ,iZ,iZ,iZ,iZ,iZ,iZ,iZ,iZ,iZ,iZ,iZ,nS,nS,iZ,iZ,iZ,iZ,iZ,nS,iZ,iZ]:=⟨_,rfl⟩;have o:z.length=32:=by rw [K];rfl
 have E0:=r9 t [j5 r.f.cells,j5 z];have lim:∀{M:Mem},Ext m M->M.lim<=M.nx:=λE=>by rw [E.lim];have:=E.nx;omega
 obtain⟨h,M1,Y,E1,c⟩:=Ip E0.ok (lim E0) (g.a.ext E0) (by omega) w k;have E01:=E0.trans E1;have N:M1.get m.nx=some (j5 r.f.cells):=by rw [E1.old _ (by simp),j6 t];rfl
 have w1:M1.get (m.nx+1)=some (j5 z):=by rw [E1.old _ (by simp),l5 t];rfl
 obtain⟨i,M2,Z,E2,d⟩:=Ip E01.ok (lim E01) (g.b.ext E01) (by omega) w k;have E02:=E01.trans E2;have n1:m.nx+2<=M1.nx:=by have:=E1.nx;simpa using this
 have n2:m.nx+2<=M2.nx:=nM n1 E2.nx;have O:M2.get m.nx=some (j5 r.f.cells):=by rw [E2.old _ (by omega)];exact N
 have w2:M2.get (m.nx+1)=some (j5 z):=by rw [E2.old _ (by omega)];exact w1
 have n:=c.ext E2;obtain⟨N1,s1,P,X1⟩:=qO (off:=22) E02.ok (by omega) (by rw [E02.lim];exact s) O (by simp) (v:=h) c.A8;have F1:=E02.qp X1 (aA _);have F:=Gl (G6.len _) O X1;have I:(r.f.cells.set 22 h).length=32:=by simp
 obtain⟨N2,s2,Q,X2⟩:=qO (off:=23) F1.ok (aP (by omega) X1.nx) (by rw [F1.lim];exact s) P (by rw [I];omega) (v:=i) d.A8;have F2:=F1.qp X2 (aA _);have G:=Gl I P X2;have J:((r.f.cells.set 22 h).set 23 i).length=32:=by simp
 have n3:m.nx+2<=N2.nx:=nM n2 (nM X1.nx X2.nx);have w3:N2.get (m.nx+1)=some (j5 z):=by rw [X2.old _ (by have:=X1.nx;omega) (by omega),X1.old _ (by omega) (by omega)];exact w2
 obtain⟨x,M4,g3,E4,e⟩:=Ip F2.ok (lim F2) (g.l.ext F2) (by omega) w k;have F4:=F2.trans E4;have R:M4.get m.nx=some (j5 ((r.f.cells.set 22 h).set 23 i)):=by rw [E4.old _ (by omega)];exact Q
 have w4:M4.get (m.nx+1)=some (j5 z):=by rw [E4.old _ (by omega)];exact w3
 have n4:m.nx+2<=M4.nx:=nM n3 E4.nx;obtain⟨N3,s3,S,X3⟩:=qO (off:=29) F4.ok (by omega) (by rw [F4.lim];exact s) R (by rw [J];omega) (v:=x) e.A8;have F5:=F4.qp X3 (aA _);have u:=Gl J R X3;let r':FR:=⟨{r.f with A:=h,B:=i,L:=x},r.a,r.b,r.l⟩
 have X:((r.f.cells.set 22 h).set 23 i).set 29 x=r'.f.cells:=rfl;rw [X] at S;have T:N3.get (m.nx+1)=some (j5 z):=by rw [X3.old _ (by omega) (by omega)];exact w4
 have j:Z4 N3 r':=⟨pz u ((pz G (pz F n)).ext E4),pz u ((pz G (pz F d)).ext E4),pz u e,g.ga,g.gb,g.nb⟩;obtain⟨m',s4,q7,X4⟩:=qP (vs:=r'.f.cells) F5.ok (aP (by omega) X3.nx) (by rw [F5.lim];omega) T (by rw [o];simp) (by simp) j.one;have F6:=F5.qp X4 (by omega);refine⟨r',m',?_,F6,j.keep (Gl o T X4),rfl,rfl,rfl,h,i,x,rfl⟩;rw [enter (sf:=f98) rfl rfl];have pa:=λ{β:Type} (p:d9->β) q=>c.aY p q;have pb:=λ{β:Type} (p:d9->β) q=>d.aY p q;have pl:=λ{β:Type} (p:d9->β) q=>e.aY p q;have U:=c.cells;have V:=d.cells;have W:=e.cells;have za:bS 100 h h=true:=fK c 99;have zb:bS 100 i i=true:=fK d 99;have zc:bS 100 r.f.A r.f.A=true:=fK g.a 99;have zd:bS 100 r.f.B r.f.B=true:=fK g.b 99;have pr:=λ{β:Type} (p:d9->β) q=>g.a.aY p q;have H:=λ{β:Type} (p:d9->β) q=>g.b.aY p q;have ll:r'.f.cells.length=32:=rfl;subst K
 clear_value r'
 clear F G u X1 X2 X3 X4 F1 F2 F4 F5 F6 c d e n j y C D E0 E01 E02 E1 E2 E4;have u1:ld1 (some (j5 r.f.cells)) 22=some r.f.A:=by rw [ko];exact G6.c22 _
 have u2:ld1 (some (j5 r.f.cells)) 23=some r.f.B:=by rw [ko];exact G6.c23 _
 have u3:ld1 (some (j5 ((r.f.cells.set 22 h).set 23 i))) 29=some r.f.L:=by rw [ko];rfl
 simp [f98,bD t s,A8,u1,u2,u3,Y,Z,g3,N,Q,S,q7,s1,s2,s3,s4,pa,pb,pl,U,V,W,za,zb,zc,zd,pr,H,ll]
theorem Cp.short {r c:FR}(h:Cp r c)(hs:r.short):c.short:=by unfold FR.short;rw [h.a,h.b,h.l];exact hs
theorem Cp.key {r a:FR}(h:Cp r a):a.key=r.key:=by obtain⟨_,_,_,b,c,d,e⟩:=h;simp only [FR.key,e]
theorem Cp.no {r a:FR}(h:Cp r a):a.f.no=r.f.no:=by obtain⟨_,_,_,b,c,d,e⟩:=h;rw [e]
theorem Cp.same {r a:FR}(h:Cp r a):a.same r=true:=by obtain⟨b,c,d,f,g,i,e⟩:=h;simp [FR.same,bO,dQ,nQ,e,b,c,d]
def CpP (l cs:List FR):Prop:=∀j (h:j<cs.length) (h':j<l.length),Cp l[j] cs[j]
theorem CpP.snoc {l cs:List FR}{r:FR}(h:CpP l cs)(c:∀h':cs.length<l.length,Cp l[cs.length] r):CpP l (cs ++ [r]):=λj b a=>by
 by_cases hc:j<cs.length;rw [adI hc];exact h j hc a;obtain rfl:j=cs.length:=by simp at b;omega
 rw [aCB (by omega)];simpa using c a
theorem Yv {o:Mem}{H:d9}{l:List FR}(a1:o.Ok)(A:o.lim<=o.nx)(hx:dn o H l)(hw:∀r,r∈l->Z4 o r)(hg:∀r,r∈l->r.Good)(hs:∀r,r∈l->r.short)(hb:l.length<=200)(n0 I:Nat)(U:1000<=I)(n:Nat)(hn:n=l.length):
  ∀(s i:Nat),i+s=n->∀(N:Nat),s<N->∀(M:Mem) (v:d9) (cs:List FR),Own o M v cs->cs.length=i->CpP l cs->(∀c,c∈cs->Z4 M c)->∀(y3 y6:d9),
   ∃z6 v' M' cs',J5 (λenv m k=>Rv (l8 KW I (n0+2)) I none env m k) N (Ni H (iN i) (iN n) y3 H v y6 nS) M []=some [⟨.exit 0,(Ni H (iN n) (iN n) fV H v' z6 nS),M',[],none⟩]∧Own o M' v' cs'∧cs'.length=n∧CpP l cs'∧(∀c,c∈cs'->Z4 M' c):=by
 intro s;induction s with
 | zero=>
  intro i hi N hN M v cs B hc K J y3 y6;obtain⟨N,rfl⟩:∃M,N=M+1:=⟨N-1,by omega⟩;obtain rfl:i=n:=by omega
  refine⟨y6,v,M,cs,?_,B,hc,K,J⟩;rw [l9];simp [Rv]
 | succ s ih=>
  intro i hi N hN M v cs B hc K J y3 y6;obtain⟨N,rfl⟩:∃M,N=M+1:=⟨N-1,by omega⟩;have b:i<l.length:=by omega
  have E0:=B.1;have hm:M.Ok:=E0.ok;have hl:M.lim<=M.nx:=by rw [E0.lim];exact nM A E0.nx
  obtain⟨id,e1,a0,e2,_⟩:=(hx.ext E0).at b;have hr:=hw l[i] (M8 b);have G:=hs l[i] (M8 b);have V:=hg l[i] (M8 b);have E1:=r9 hm [j5 l[i].f.cells];obtain⟨g,M2,g2,E2,u,t⟩:=abK E1.ok (by simp;omega) ((hr.ext E0).ext E1) G n0 I U;have E3:Ext M2 (M2.new (j5 g.f.cells)):=(Ext.refl E2.ok).new _;have C:Own o (M2.new (j5 g.f.cells)) v cs:=((B.ext E1).ext E2).ext E3;have X:g.Good:=u.good (t.short G);have T:dn (M2.new (j5 g.f.cells)) (.slice M2.nx 0 1 1) [g]:=.inr ⟨M2.nx,.inl ⟨1,rfl⟩,by simp,.inr ⟨1,.nd .e g.f.cells .e,by
   rw [Mem.P5 E2.ok,if_pos rfl];show some (Z6.cells (len' g.f.cells) 1 (.nd .e g.f.cells .e))=_;rw [K7,G6.len],by simp,λj hj=>by
   obtain rfl:j=0:=by simp at hj;omega
   rfl⟩⟩
  obtain⟨v',M4,hA,D,k4⟩:=Sn A C T (λr h=>by simp at h;rw [h];exact X) (by simp;omega);have y:Kp M M4:=((Kp.of E1).trans ((Kp.of E2).trans (Kp.of E3))).trans k4;obtain⟨q,hq⟩:∃q,q=i+1:=⟨_,rfl⟩;obtain⟨z6,v5,M5,P,g5,E,S,F,w⟩:=ih q (by omega) N (by omega) M4 v' (cs ++ [g]) D (by simp;omega) (K.snoc λh'=>by
   have e:l[cs.length]=l[i]:=by congr 1
   rw [e];exact t) (λc R=>by
   rcases O5.1 R with h | h;exact (J c h).keep y;simp at h;rw [h];exact (u.ext E3).keep k4) tV (.ptr M.nx 0)
  refine⟨z6,v5,M5,P,?_,E,S,F,w⟩;have e3:=ak hq (by omega);have Y:i<n:=by omega
  have Q:∀z O L env d,List.length z=32->I8 32 1 z O L env d=ob (lay O L env z) λa=>if a.length=32 then some (.slice d 0 1 1,some (j5 a)) else none:=λz O L env d h=>J3 32 z O L env d h
  have Z:=λ{β:Type} (p:d9->β) q=>D.fs.aY p q;have W:=V.one;simp only [o9] at hA;rw [l9,← g5];generalize l[i]=x at *;clear ih K J F w y t B C E u hr;simp [Rv,bD hm hl,A8,Y,e1,e2,e3,g2,Q,hA,Z,W,G6.len]
theorem ale {m:Mem}{v:d9}{l:List FR}(e:m.Ok)(t:m.lim<=m.nx)(k:dn m v l)(i:∀r,r∈l->Z4 m r)(hs:∀r,r∈l->r.short)(hb:l.length<=200)(n b:Nat)(d:1000<=b):
  ∃v' m' cs,l8 KW b (n+3) (.func 65) [v] m=some [⟨v',m'⟩]∧Own m m' v' cs∧cs.length=l.length∧CpP l cs∧(∀c,c∈cs->Z4 m' c):=by
 have a:=k.len;obtain⟨u,v',m',cs,g,o,p,q,s⟩:=Yv e t k i (λr f=>(i r f).good (hs r f)) hs hb n b d l.length rfl l.length 0 (by omega) b (by omega) m nS [] (Own.nil (Ext.refl e)) rfl (λj h=>by simp at h) (λc h=>by simp at h) uV uV;refine⟨v',m',cs,?_,o,p,q,s⟩;dsimp only [iN] at g;rw [show ((0:Nat):Int)=0 from rfl] at g;rw [enter (sf:=f65) rfl rfl];simp [f65,a,g]
theorem tO:∀(n:Nat) (s:By),s.length<=n->(chunks s).flatten=s
 | 0,s,h=>by obtain rfl:=abm.1 (show s.length=0 by omega);simp [fM]
 | n+1,s,h=>by by_cases hs:s=[];subst hs;simp [fM];have hp:=abY.2 hs;rw [mM hs,azM,tO n (s.drop 64) (by simp;omega),aBX]
theorem iq (a:Int)(s:By):(oJ a s).length=(chunks s).length+1:=by simp [oJ]
theorem Sr:Tok jq:=nE (by decide)
theorem AB (ns:List Int):splitB 32 (D7 jq ns)=jq::bf ns:=by rw [iB];exact pU 32 _ _ (CJ Sr (by decide)) (λx a=>CJ (eB _ x a) (by decide))
theorem abL {a b:Int}(d:Sm a)(hb:Sm b)(h:Lib.itoa a=Lib.itoa b):a=b:=by have c:=Eu d;rw [h,Eu hb] at c;exact c.symm
structure nJ (no:Int)(disk:List By)(r:FR):Prop where
 valid:r.valid=true
 pre:∃rest,disk=oJ no (D8 r)++rest
theorem nJ.many {b:Int}{a:List By}{r s:FR}(h:nJ b a r)(k:nJ b a s):(chunks (D8 r)).length=(chunks (D8 s)).length:=by
 obtain⟨t,d⟩:=h.pre;obtain⟨u,f⟩:=k.pre;have e:D7 jq [b,((chunks (D8 r)).length:Int),((D8 r).length:Int),(rU (D8 r):Int)]=D7 jq [b,((chunks (D8 s)).length:Int),((D8 s).length:Int),(rU (D8 s):Int)]:=by have:=d.symm.trans f;simp only [oJ,adQ] at this;exact (al5 this).1
 have c:=congrArg (splitB 32) e;rw [AB,AB] at c;simp only [bf,adT,aCH,List.cons.injEq,true_and] at c;have g:=kF _ _ (aA (D8 r).length);have i:=kF _ _ (aA (D8 s).length);have j:=jK h.valid;have l:=jK k.valid;have:=abL (by unfold Sm;omega) (by unfold Sm;omega) c.1;omega
theorem nJ.text {b:Int}{a:List By}{r s:FR}(h:nJ b a r)(k:nJ b a s):D8 r=D8 s:=by have g:=h.many k;obtain⟨t,d⟩:=h.pre;obtain⟨u,f⟩:=k.pre;have e:=d.symm.trans f;have:=(List.append_inj e (by rw [iq,iq,g])).1;have c:chunks (D8 r)=chunks (D8 s):=(al5 this).2;rw [← tO _ (D8 r) (aA _),c,tO _ (D8 s) (aA _)]
theorem nJ.uniq {b:Int}{a:List By}{r s:FR}(h:nJ b a r)(k:nJ b a s):r.cn=s.cn:=
 UL (text:=D8 r) ⟨h.valid,rfl⟩ ⟨k.valid,(h.text k).symm⟩
def rX (disk:List By):Option Nat:=match disk with
 | []=>none
 | d :: _=>match splitB 32 d with
  | [_,_,w,_,_]=>match Lib.atoiAll w with
   | .ok k=>if 0<=k∧k<disk.length then some k.toNat else none
   | _=>none
  | _=>none
theorem abM {b:Int}{a:List By}{r:FR}(h:nJ b a r):rX a=some (chunks (D8 r)).length:=by
 obtain⟨t,rfl⟩:=h.pre;have c:=kF _ _ (aA (D8 r).length);have d:=jK h.valid;unfold rX;show (match splitB 32 (D7 jq [b,((chunks (D8 r)).length:Int),((D8 r).length:Int),(rU (D8 r):Int)]) with
  | [_,_,w,_,_]=>match Lib.atoiAll w with
   | .ok k=>if 0<=k∧k<((oJ b (D8 r)++t).length:Int) then some k.toNat else none
   | _=>none
  | _=>none)=_
 rw [AB];simp only [bf,adT,aCH];rw [Nl (by omega) (by omega)];simp only;rw [if_pos ⟨by omega,by rw [acp,iq];omega⟩];simp
def aiT (k:Nat)(disk:List By):By:=((disk.drop 1).take k).flatten
theorem Sv {b:Int}{a:List By}{r:FR}(h:nJ b a r):aiT (chunks (D8 r)).length a=D8 r:=by obtain⟨t,rfl⟩:=h.pre;have:(oJ b (D8 r)++t).drop 1=chunks (D8 r)++t:=rfl;rw [aiT,this,List.take_left,tO _ _ (aA _)]
theorem NA {b:Int}{a:List By}{r:FR}{k:Nat}(d:r.valid=true)(c:a.take (k+1)=oJ b (D8 r)):nJ b a r:=⟨d,a.drop (k+1),by rw [← c,aBX]⟩
theorem WX {b:Int}{a:List By}{r:FR}(h:nJ b a r):a.take ((chunks (D8 r)).length+1)=oJ b (D8 r):=by obtain⟨t,rfl⟩:=h.pre;rw [← iq b,List.take_left]
theorem KQ (c:UInt8):∀s:By,AY c s=splitB c s
 | []=>rfl
 | b::l=>by obtain⟨h,t,e⟩:=mK c l;rw [qM,KQ c l,FP,splitB,e];by_cases hb:b=c;rw [decide_eq_true hb,if_pos hb];rfl;rw [decide_eq_false hb,if_neg hb];rfl
theorem CR:∀ws:List By,iD [] ws=ws.flatten
 | []=>rfl
 | [w]=>by simp [iD]
 | w::x::ws=>by have ih:=CR (x::ws);have e:iD [] (w::x::ws)=cZ w (cZ [] (iD [] (x::ws))):=rfl;rw [e,ih,V8,V8];simp
theorem EA {b:Nat}:∀{ws:List By},(∀w∈ws,w.length<=b)->ws.flatten.length<=ws.length*b
 | [],_=>by simp
 | w::ws,h=>by have h1:=EA (ws:=ws) λx hx=>h x (acr _ hx);have h2:=h w (adR ..);simp only [azM,acp,acA];rw [acO];omega
def iU (L:List FR)(k:Int):Nat:=(L.filter λr=>decide (r.f.room=k)).length
def lastB (L:List FR)(k:Int):Int:=L.foldl (λn r=>if r.f.room=k then max n r.f.known else n) 0
def sK (L:List FR)(r:FR):Bool:=decide (r.f.no=(iU L r.f.room:Int)+1)&&decide (lastB L r.f.room<=r.f.known)
theorem AJ (L:List FR)(r:FR)(k:Int):iU (L ++ [r]) k=iU L k+if r.f.room=k then 1 else 0:=by unfold iU;by_cases h:r.f.room=k<;>simp [h]
theorem wO (L:List FR)(r:FR)(k:Int):lastB (L ++ [r]) k=if r.f.room=k then max (lastB L k) r.f.known else lastB L k:=by unfold lastB;simp
theorem afM {r s:FR}(h:r.cn=s.cn):r.f.room=s.f.room∧r.f.no=s.f.no∧r.f.known=s.f.known:=by have h:=congrArg FR.f h;have a:r.cn.f.room=s.cn.f.room:=congrArg G6.room h;have b:r.cn.f.no=s.cn.f.no:=congrArg G6.no h;have c:r.cn.f.known=s.cn.f.known:=congrArg G6.known h;exact⟨a,b,c⟩
theorem alf (r:FR):r.cn.f.room=r.f.room∧r.cn.f.no=r.f.no∧r.cn.f.known=r.f.known:=⟨rfl,rfl,rfl⟩
theorem Sw (k:Int)(L:List FR):iU (L.map FR.cn) k=iU L k:=by
 induction L with
 | nil=>rfl
 | cons r L ih=>unfold iU at ih ⊢;rw [adT,amH,amH,(alf r).1];split;rw [acA,acA,ih];exact ih
theorem WY {L M:List FR}(h:L.map FR.cn=M.map FR.cn)(k:Int):iU L k=iU M k:=by rw [← Sw k L,h,Sw]
theorem Gm (k:Int):∀(L:List FR) (n:Int),(L.map FR.cn).foldl (λn r=>if r.f.room=k then max n r.f.known else n) n=L.foldl (λn r=>if r.f.room=k then max n r.f.known else n) n
 | [],_=>rfl
 | r::L,n=>by rw [adT,axv,axv,(alf r).1,(alf r).2.2];exact Gm k L _
theorem abN {L M:List FR}(h:L.map FR.cn=M.map FR.cn)(k:Int):lastB L k=lastB M k:=by unfold lastB;rw [← Gm k L,h,Gm]
theorem wP {L M:List FR}(h:L.map FR.cn=M.map FR.cn){r s:FR}(e:r.cn=s.cn):sK L r=sK M s:=by obtain⟨a,b,c⟩:=afM e;unfold sK;rw [a,b,c,WY h,abN h]
def U5 (r:FR):Nat:=(chunks (D8 r)).length+1
def Rec (n:Nat)(disk:List By)(r:FR):Prop:=n<=200∧nJ (n:Int) disk r
inductive WZ:List FR->List By->List FR->Prop
 | stop {L:List FR} {disk:List By} (h:∀r,Rec (L.length+1) disk r->sK L r=false):WZ L disk L
 | step {L L':List FR} {disk:List By} {r:FR} (h:Rec (L.length+1) disk r) (hf:sK L r=true) (k:WZ (L ++ [r]) (disk.drop (U5 r)) L'):WZ L disk L'
theorem Sy {r s:FR}(h:r.cn=s.cn):D8 r=D8 s:=by rw [← wJ r,h,wJ]
theorem WZ.uniq {L:List FR}{a:List By}{X:List FR}(h:WZ L a X):∀{M Y:List FR},L.map FR.cn=M.map FR.cn->WZ M a Y->X.map FR.cn=Y.map FR.cn:=by
 induction h with
 | @stop L a h=>
  intro M Y c k;have b:L.length=M.length:=by simpa using congrArg List.length c
  cases k with
  | stop _=>exact c
  | @step _ _ _ s g gf k=>rw [← b] at g;have:=h s g;rw [wP c (s:=s) rfl,gf] at this;cases this
 | @step L L' a r h hf k ih=>
  intro M Y c d;have b:L.length=M.length:=by simpa using congrArg List.length c
  cases d with
  | stop g=>rw [← b] at g;have:=g r h;rw [← wP c (r:=r) rfl,hf] at this;cases this
  | @step _ _ _ s g gf d=>
   rw [← b] at g;have e:=h.2.uniq g.2;have f:=Sy e;refine ih (M:=M ++ [s]) (by simp [c,e]) ?_;have:U5 r=U5 s:=by unfold U5;rw [f]
   rw [this];exact d
inductive Grown:List FR->Prop
 | nil:Grown []
 | snoc {L:List FR} {r:FR} (h:Grown L) (hv:r.valid=true) (hf:sK L r=true):Grown (L ++ [r])
theorem Grown.valid {L:List FR}(h:Grown L):∀r∈L,r.valid=true:=by
 induction h with
 | nil=>simp
 | snoc h hv hf ih=>intro r a;rcases O5.1 a with a | a;exact ih r a;simp at a;rw [a];exact hv
theorem Grown.nos {L:List FR}(h:Grown L)(k:Int):∀i (hi:i<(L.filter λr=>decide (r.f.room=k)).length),((L.filter λr=>decide (r.f.room=k))[i]).f.no=(i:Int)+1:=by
 induction h with
 | nil=>intro i hi;simp at hi
 | @snoc L r h hv hf ih=>
  intro i hi;by_cases hk:r.f.room=k;have e:((L ++ [r]).filter λr=>decide (r.f.room=k))=(L.filter λr=>decide (r.f.room=k)) ++ [r]:=by simp [hk]
  simp only [e] at hi ⊢;by_cases hlt:i<(L.filter λr=>decide (r.f.room=k)).length;rw [adI hlt];exact ih i hlt;obtain rfl:i=(L.filter λr=>decide (r.f.room=k)).length:=by simp at hi hlt ⊢;omega
  rw [aCB (aA _)];simp only [sK,rW,decide_eq_true_eq] at hf;simp only [aCK,List.getElem_cons_zero];rw [hf.1,hk];rfl;have e:((L ++ [r]).filter λr=>decide (r.f.room=k))=(L.filter λr=>decide (r.f.room=k)):=by simp [hk]
  simp only [e] at hi ⊢;exact ih i hi
def fU:Nat->List FR->List By
 | _,[]=>[]
 | k,r::L=>oJ (k:Int) (D8 r)++fU (k+1) L
theorem CS:∀(L:List FR) (k:Nat) (r:FR),fU k (L ++ [r])=fU k L++oJ ((k+L.length:Nat):Int) (D8 r)
 | [],k,r=>by simp [fU]
 | s::L,k,r=>by simp only [adQ,fU,CS L (k+1) r,acA,aCx];rw [show k+1+L.length=k+(L.length+1) from by omega]
theorem Gn:∀(L:List FR) (k:Nat),fU k (L.map FR.cn)=fU k L
 | [],_=>rfl
 | r::L,k=>by rw [adT,fU,fU,wJ,Gn L]
theorem Sz {L M:List FR}(h:L.map FR.cn=M.map FR.cn)(k:Nat):fU k L=fU k M:=by rw [← Gn L,h,Gn]
theorem afN {m:Mem}{v w:d9}{xs d:List By}(u:dB m v (strs xs))(x:dB m w (strs d))(D:xs.length=d.length)(hb:xs.length<=100000)(cf:H7)(l:Nat):∀(j i:Nat),i+j=xs.length->∀(a5 a6 a7:d9) (N:Nat),j+1<=N->
  (xs.drop i=d.drop i∧∃(b6 b7:d9),J5 (λenv m k=>Ei cf l none env m k) N (RA v w fV (iN i) (iN (xs.length)) a5 a6 a7 fV) m []=some [⟨.exit 0,(RA v w fV (iN (xs.length)) (iN (xs.length)) fV b6 b7 fV),m,[],none⟩])∨
  (xs.drop i≠d.drop i∧∃(b3 b5 b6 b7:d9),J5 (λenv m k=>Ei cf l none env m k) N (RA v w fV (iN i) (iN (xs.length)) a5 a6 a7 fV) m []=some [⟨.ret,(RA v w fV b3 (iN (xs.length)) b5 b6 b7 fV),m,[],none⟩]):=by
 intro j;induction j with
 | zero=>
  intro i C a5 a6 a7 N A;obtain⟨N,rfl⟩:∃k,N=k+1:=⟨N-1,by omega⟩;obtain rfl:i=xs.length:=by omega
  refine .inl ⟨by rw [zu (aA _),zu (by omega)],a6,a7,?_⟩;rw [l9];simp [Ei]
 | succ j ih=>
  intro i C a5 a6 a7 N A;obtain⟨N,rfl⟩:∃k,N=k+1:=⟨N-1,by omega⟩;have a:i<xs.length:=by omega
  have b:i<d.length:=by omega
  obtain⟨id,o,n,_,r⟩:=u.at (i:=i) (by rw [G8];exact a);have f:(strs xs)[i]'(by rw [G8];exact a)=.str xs[i]:=by simp [strs]
  rw [f] at r;simp at n;obtain⟨E,F,s,_,t⟩:=x.at (i:=i) (by rw [G8];exact b);have e:(strs d)[i]'(by rw [G8];exact b)=.str d[i]:=by simp [strs]
  rw [e] at t;simp at s;have y:=λ{β:Type} (p:d9->β) q=>u.aY p q;have z:=λ{β:Type} (p:d9->β) q=>x.aY p q;rw [M0 a,M0 b];by_cases hq:xs[i]=d[i];have c:∀R:Option (List Out),J5 (λenv m k=>Ei cf l none env m k) N (RA v w fV (iN ((i+1))) (iN (xs.length)) tV (iN i) fV fV) m []=R->J5 (λenv m k=>Ei cf l none env m k) (N+1) (RA v w fV (iN i) (iN (xs.length)) a5 a6 a7 fV) m []=R:=λR B=>by rw [l9,← B];simp [Ei,a,n,r,s,t,y,z,hq,Z7 (i:=i) (by omega)]
  rcases ih (i+1) (by omega) tV (iN i) fV N (by omega) with⟨h1,b5,b6,g⟩ | ⟨h1,b3,b4,b5,b6,g⟩;exact .inl ⟨by rw [hq,h1],b5,b6,c _ g⟩;exact .inr ⟨λh=>h1 (by injection h),b3,b4,b5,b6,c _ g⟩;refine .inr ⟨λh=>hq (by injection h),(iN i),tV,(iN i),tV,?_⟩;rw [l9];simp [Ei,a,n,r,s,t,y,z,hq]
theorem alg {m:Mem}{v w:d9}{xs ys:List By}(e:dB m v (strs xs))(f:dB m w (strs ys))(hb:xs.length<=10000)(n b:Nat)(i:20000<=b):l8 KW b (n+1) (.func 95) [v,w] m=some [⟨.bool (decide (xs=ys)),m⟩]:=by
 have c:=e.len;have d:=f.len;rw [G8] at c d;rw [enter (sf:=f95) rfl rfl];by_cases hxy:xs.length=ys.length;rcases afN e f hxy (by omega) (l8 KW b n) b xs.length 0 (by omega) uV uV uV b (by omega) with⟨a,b5,b6,g⟩ | ⟨a,b3,b4,b5,b6,g⟩;have a:xs=ys:=by simpa using a
 simp at g;simp [f95,c,d,hxy] at g ⊢;simp [g,a];have a:¬ xs=ys:=by simpa using a
 simp at g;simp [f95,c,d,hxy] at g ⊢;simp [g,a];have a:¬ xs=ys:=λh=>hxy (by rw [h]);have j:¬ ((xs.length:Nat):Int)=(ys.length:Int):=by omega
 simp [f95,c,d,hxy,j,a]
theorem dn.atK {m:Mem}{v:d9}{b:List FR}(h:dn m v b){i:Nat}(hi:i<b.length):
  ∃id,xE v none (λid off len _=>idx len (iV i) λk=>some (d9.ptr id (off+k*32))) (λid off len _=>idx len (iV i) λk=>some (d9.ptr id (off+k*32)))=some (.ptr id (i*32))∧id<m.nx∧
   YR (m.get id) (i*32) 32=some (.agg b[i].f.cells)∧ld1 (m.get id) (i*32)=some (iV b[i].f.room)∧ld1 (m.get id) (i*32+1)=some (iV b[i].f.no)∧ld1 (m.get id) (i*32+2)=some (iV b[i].f.known):=by
 obtain⟨id,a,e,g,l,o,_⟩:=h.at hi;refine⟨id,a,e,g,l,o,?_⟩;rcases h with⟨_,rfl⟩ | ⟨id',hv,h2,h3⟩;simp at hi;have d:id'=id:=by rcases hv with⟨c',rfl⟩ | rfl;simp only [vw] at a;rw [au _ _ _ hi] at a;have:=su a;injection this;simp only [rM] at a;rw [au _ _ _ hi] at a;have:=su a;injection this
 subst d;rcases h3 with rfl | ⟨c,rows,h4,h5,h6⟩;simp at hi;rw [h4];exact gM (rs:=32) (n:=c) (rows:=rows) (i:=i) (j:=2) (by omega) (by omega) (h6 i hi)
theorem afO {p:Nat}{m:Mem}{fv:d9}{L:List FR}(E:m.Ok)(d:m.lim<=m.nx)(F:dn m fv L)(B:∀r,r∈L->r.Good)(hb:L.length<=1000)(k:Int)(cf:H7)(y:Nat):∀(j i:Nat),i+j=L.length->∀(N:Nat),j<N->∀(M:Mem),Ext m M->∀(a3 a5 a7:d9),
  ∃b5 b7 M',J5 (λenv m k=>Nb cf y none env m k) N (Gc (.ptr p 0) (iN i) (iN (L.length)) a3 fv a5 (iV k) a7 (iN (iU (L.take i) k)) iZ) M []=some [⟨.exit 0,(Gc (.ptr p 0) (iN (L.length)) (iN (L.length)) fV fv b5 (iV k) b7 (iN (iU (L) k)) iZ),M',[],none⟩]∧Ext m M':=by
 intro j;induction j with
 | zero=>
  intro i C N z M b a3 a5 a7;obtain⟨N,rfl⟩:∃k,N=k+1:=⟨N-1,by omega⟩;obtain rfl:i=L.length:=by omega
  refine⟨a5,a7,M,?_,b⟩;rw [l9,agL];simp [Nb]
 | succ j ih=>
  intro i C N z M b a3 a5 a7;obtain⟨N,rfl⟩:∃k,N=k+1:=⟨N-1,by omega⟩;have a:i<L.length:=by omega
  have e:M.Ok:=b.ok;have t:M.lim<=M.nx:=by rw [b.lim];exact nM d b.nx
  obtain⟨id,h,D,l,_⟩:=(F.ext b).at a;have v:=(B _ (M8 a)).one;have E1:=b.trans (r9 e [j5 L[i].f.cells]);obtain⟨q,u⟩:∃q,q=i+1:=⟨_,rfl⟩;have n:=ak u (by omega);have o:L.take q=L.take i ++ [L[i]]:=by rw [u];exact O4 a
  by_cases hk:L[i].f.room=k;obtain⟨b5,b7,M',g,E2⟩:=ih q (by omega) N (by omega) _ E1 tV (.ptr M.nx 0) tV;refine⟨b5,b7,M',?_,E2⟩;rw [o,AJ,if_pos hk] at g;obtain⟨c,s⟩:∃c,c=iU (L.take i) k+1:=⟨_,rfl⟩;have A:iU (L.take i) k<=1000:=by have:=amF (λr:FR=>decide (r.f.room=k)) (L.take i);have G:=List.length_take_le i L;unfold iU;omega
  have w:=ak s (by omega);rw [← s] at g;rw [l9,← g];generalize L[i]=x at *;clear ih g;simp [Nb,bD e t,A8,a,h,l,n,w,v,hk,G6.len];obtain⟨b5,b7,M',g,E2⟩:=ih q (by omega) N (by omega) _ E1 tV (.ptr M.nx 0) fV;refine⟨b5,b7,M',?_,E2⟩;rw [o,AJ,if_neg hk] at g;try rw [acy] at g
  rw [l9,← g];generalize L[i]=x at *;clear ih g;simp [Nb,bD e t,A8,a,h,l,n,v,hk,G6.len]
theorem abO {p:Nat}{m:Mem}{lv fv:d9}{rid:Int}{L:List FR}(d:m.Ok)(h:m.lim<=m.nx)(hp:m.get p=some (j5 [lv,iV rid,fv]))(c:dn m fv L)(f:∀r,r∈L->r.Good)(hb:L.length<=1000)(k:Int)(n a:Nat)(e:2000<=a):
  ∃m',l8 KW a (n+1) (.func 96) [.ptr p 0,iV k] m=some [⟨(iN (iU (L) k)),m'⟩]∧Ext m m':=by
 have b:=c.len;have t:=c.cells;have i:=λ{β:Type} (p:d9->β) q=>c.aY p q;obtain⟨o,s,m',g,E⟩:=afO (p:=p) d h c f hb k (l8 KW a n) a L.length 0 (by omega) a (by omega) m (Ext.refl d) uV uV uV;refine⟨m',?_,E⟩;rw [enter (sf:=f96) rfl rfl];have j:L.take 0=[]:=rfl;rw [j] at g;have l:iU [] k=0:=rfl;rw [l] at g;simp at g;simp [f96,hp,b,i,g]
theorem Xa {x y:OF}{ls:List d9}{env:T d9}{a b:Int}(c:x ls env=iV a)(d:y ls env=iV b):SX true x [y] ls env=some (iV (max a b)):=by show ob (mm2 true (x ls env) (y ls env)) some=_;rw [c,d];show some (d9.int .i64 (bi (mQ a b) b a))=_;by_cases h:a<b;rw [show mQ a b=true from by rw [iO];simp;omega,aH];congr 2;omega;rw [show mQ a b=false from by rw [iO];simp;omega,bA];congr 2;omega
theorem afP {p:Nat}{m:Mem}{fv:d9}{L:List FR}(F:m.Ok)(e:m.lim<=m.nx)(l:dn m fv L)(C:∀r,r∈L->r.Good)(hb:L.length<=1000)(k:Int)(cf:H7)(A:Nat):∀(j i:Nat),i+j=L.length->∀(N:Nat),j<N->∀(M:Mem),Ext m M->∀(a3 a5 a7:d9),
  ∃b5 b7 M',J5 (λenv m k=>Nc cf A none env m k) N (Gc (.ptr p 0) (iN i) (iN (L.length)) a3 fv a5 (iV k) a7 (iV (lastB (L.take i) k)) iZ) M []=some [⟨.exit 0,(Gc (.ptr p 0) (iN (L.length)) (iN (L.length)) fV fv b5 (iV k) b7 (iV (lastB (L) k)) iZ),M',[],none⟩]∧Ext m M':=by
 intro j;induction j with
 | zero=>
  intro i D N B M d a3 a5 a7;obtain⟨N,rfl⟩:∃k,N=k+1:=⟨N-1,by omega⟩;obtain rfl:i=L.length:=by omega
  refine⟨a5,a7,M,?_,d⟩;rw [l9,agL];simp [Nc]
 | succ j ih=>
  intro i D N B M d a3 a5 a7;obtain⟨N,rfl⟩:∃k,N=k+1:=⟨N-1,by omega⟩;have c:i<L.length:=by omega
  have h:M.Ok:=d.ok;have u:M.lim<=M.nx:=by rw [d.lim];exact nM e d.nx
  obtain⟨id,n,E,o,_⟩:=(l.ext d).at c;have w:=(C _ (M8 c)).one;have E1:=d.trans (r9 h [j5 L[i].f.cells]);obtain⟨q,v⟩:∃q,q=i+1:=⟨_,rfl⟩;have s:=ak v (by omega);have t:L.take q=L.take i ++ [L[i]]:=by rw [v];exact O4 c
  by_cases hk:L[i].f.room=k;obtain⟨b5,b7,M',g,E2⟩:=ih q (by omega) N (by omega) _ E1 tV (.ptr M.nx 0) tV;refine⟨b5,b7,M',?_,E2⟩;rw [t,wO,if_pos hk] at g;have z:=λx y H env a b l G=>@Xa x y H env a b l G;rw [l9,← g];generalize L[i]=x at *;clear ih g;simp [Nc,bD h u,A8,c,n,o,s,z,w,hk,G6.len];obtain⟨b5,b7,M',g,E2⟩:=ih q (by omega) N (by omega) _ E1 tV (.ptr M.nx 0) fV;refine⟨b5,b7,M',?_,E2⟩;rw [t,wO,if_neg hk] at g
  skip
  rw [l9,← g];generalize L[i]=x at *;clear ih g;simp [Nc,bD h u,A8,c,n,o,s,w,hk,G6.len]
theorem alh {p:Nat}{m:Mem}{lv fv:d9}{rid:Int}{L:List FR}(d:m.Ok)(h:m.lim<=m.nx)(hp:m.get p=some (j5 [lv,iV rid,fv]))(c:dn m fv L)(f:∀r,r∈L->r.Good)(hb:L.length<=1000)(k:Int)(n a:Nat)(e:2000<=a):
  ∃m',l8 KW a (n+1) (.func 97) [.ptr p 0,iV k] m=some [⟨(iV (lastB (L) k)),m'⟩]∧Ext m m':=by
 have b:=c.len;have t:=c.cells;have i:=λ{β:Type} (p:d9->β) q=>c.aY p q;obtain⟨o,s,m',g,E⟩:=afP (p:=p) d h c f hb k (l8 KW a n) a L.length 0 (by omega) a (by omega) m (Ext.refl d) uV uV uV;refine⟨m',?_,E⟩;rw [enter (sf:=f97) rfl rfl];have j:L.take 0=[]:=rfl;rw [j] at g;have l:lastB [] k=0:=rfl;rw [l] at g;simp at g;simp [f97,hp,b,i,g]
theorem abP {m:Mem}{fv:d9}{L:List FR}(s:dn m fv L)(hb:L.length<=1000)(k:Int)(cf:H7)(w:Nat):∀(j i:Nat),i+j=L.length->∀(N:Nat),j<N->∀(a2 a4:d9),
  ∃b4,J5 (λenv m k=>FQ cf w none env m k) N (CX (iN i) fv a2 (iV k) a4 (iN (iU (L.take i) k)) iZ) m []=some [⟨.exit 0,(CX (iN (L.length)) fv fV (iV k) b4 (iN (iU (L) k)) iZ),m,[],none⟩]:=by
 have a:=s.len;intro j;induction j with
 | zero=>
  intro i A N y a2 a4;obtain⟨N,rfl⟩:∃k,N=k+1:=⟨N-1,by omega⟩;obtain rfl:i=L.length:=by omega
  refine⟨a4,?_⟩;rw [l9,agL];simp [FQ,a]
 | succ j ih=>
  intro i A N y a2 a4;obtain⟨N,rfl⟩:∃k,N=k+1:=⟨N-1,by omega⟩;have b:i<L.length:=by omega
  obtain⟨id,d,B,e,l,u,v⟩:=s.atK b;obtain⟨q,p⟩:∃q,q=i+1:=⟨_,rfl⟩;have h:=ak p (by omega);have n:L.take q=L.take i ++ [L[i]]:=by rw [p];exact O4 b
  by_cases hk:L[i].f.room=k;obtain⟨b4,g⟩:=ih q (by omega) N (by omega) tV tV;refine⟨b4,?_⟩;rw [n,AJ,if_pos hk] at g;obtain⟨c,o⟩:∃c,c=iU (L.take i) k+1:=⟨_,rfl⟩;have z:iU (L.take i) k<=1000:=by have:=amF (λr:FR=>decide (r.f.room=k)) (L.take i);have C:=List.length_take_le i L;unfold iU;omega
  have t:=ak o (by omega);rw [← o] at g;rw [l9,← g];generalize L[i]=x at *;clear ih g;simp [FQ,a,b,d,e,h,t,l,u,v,hk];obtain⟨b4,g⟩:=ih q (by omega) N (by omega) tV fV;refine⟨b4,?_⟩;rw [n,AJ,if_neg hk] at g;try rw [acy] at g
  rw [l9,← g];generalize L[i]=x at *;clear ih g;simp [FQ,a,b,d,e,h,l,hk]
theorem Xb {m:Mem}{fv:d9}{L:List FR}(c:dn m fv L)(hb:L.length<=1000)(k:Int)(n a:Nat)(b:2000<=a):
  l8 KW a (n+1) (.func 100) [fv,iV k] m=some [⟨(iN (iU (L) k)),m⟩]:=by
 obtain⟨f,g⟩:=abP c hb k (l8 KW a n) a L.length 0 (by omega) a (by omega) uV uV;rw [enter (sf:=f100) rfl rfl];have d:L.take 0=[]:=rfl;rw [d] at g;have e:iU [] k=0:=rfl;rw [e] at g;simp at g;simp [f100,g]
theorem abQ {m:Mem}{fv:d9}{L:List FR}(e:dn m fv L)(hb:L.length<=1000)(k:Int)(cf:H7)(v:Nat):∀(j i:Nat),i+j=L.length->∀(N:Nat),j<N->∀(a2 a4:d9),
  ∃b4,J5 (λenv m k=>FT cf v none env m k) N (CX (iN i) fv a2 (iV k) a4 (iV (lastB (L.take i) k)) iZ) m []=some [⟨.exit 0,(CX (iN (L.length)) fv fV (iV k) b4 (iV (lastB (L) k)) iZ),m,[],none⟩]:=by
 have c:=e.len;intro j;induction j with
 | zero=>
  intro i z N w a2 a4;obtain⟨N,rfl⟩:∃k,N=k+1:=⟨N-1,by omega⟩;obtain rfl:i=L.length:=by omega
  refine⟨a4,?_⟩;rw [l9,agL];simp [FT,c]
 | succ j ih=>
  intro i z N w a2 a4;obtain⟨N,rfl⟩:∃k,N=k+1:=⟨N-1,by omega⟩;have d:i<L.length:=by omega
  obtain⟨id,h,A,l,o,t,u⟩:=e.atK d;obtain⟨q,r⟩:∃q,q=i+1:=⟨_,rfl⟩;have n:=ak r (by omega);have p:L.take q=L.take i ++ [L[i]]:=by rw [r];exact O4 d
  by_cases hk:L[i].f.room=k;obtain⟨b4,g⟩:=ih q (by omega) N (by omega) tV tV;refine⟨b4,?_⟩;rw [p,wO,if_pos hk] at g;have s:=λx y C env a b e B=>@Xa x y C env a b e B;rw [l9,← g];generalize L[i]=x at *;clear ih g;simp [FT,c,d,h,l,n,s,o,t,u,hk];obtain⟨b4,g⟩:=ih q (by omega) N (by omega) tV fV;refine⟨b4,?_⟩;rw [p,wO,if_neg hk] at g
  skip
  rw [l9,← g];generalize L[i]=x at *;clear ih g;simp [FT,c,d,h,l,n,o,hk]
theorem afQ {m:Mem}{fv:d9}{L:List FR}(c:dn m fv L)(hb:L.length<=1000)(k:Int)(n a:Nat)(b:2000<=a):
  l8 KW a (n+1) (.func 101) [fv,iV k] m=some [⟨(iV (lastB (L) k)),m⟩]:=by
 obtain⟨f,g⟩:=abQ c hb k (l8 KW a n) a L.length 0 (by omega) a (by omega) uV uV;rw [enter (sf:=f101) rfl rfl];have d:L.take 0=[]:=rfl;rw [d] at g;have e:lastB [] k=0:=rfl;rw [e] at g;simp at g;simp [f101,g]
theorem ali {p:Nat}{m:Mem}{lv fv:d9}{rid:Int}{L:List FR}{r:FR}(b:m.Ok)(h:m.lim<=m.nx)(d:p<m.nx)(hp:m.get p=some (j5 [lv,iV rid,fv]))(v:dn m fv L)(u:∀r,r∈L->r.Good)(hb:L.length<=1000)(n g:Nat)(a:2000<=g):
  ∃m',l8 KW g (n+2) (.func 55) [(.ptr p 0),.agg r.f.cells] m=some [⟨.bool (sK L r),m'⟩]∧Ext m m':=by
 rw [enter (sf:=f55) rfl rfl];have E1:=r9 b [j5 r.f.cells];have lim:∀{M:Mem},Ext m M->M.lim<=M.nx:=λE=>by rw [E.lim];exact nM h E.nx
 obtain⟨M1,j,E2'⟩:=abO E1.ok (lim E1) ((E1.old p d).trans hp) (v.ext E1) u hb r.f.room n g a;have E2:=E1.trans E2';have i:M1.get m.nx=some (j5 r.f.cells):=by rw [E2'.old _ (by simp),j6 b];rfl
 obtain⟨M2,t,E3'⟩:=alh E2.ok (lim E2) ((E2.old p d).trans hp) (v.ext E2) u hb r.f.room n g a;have E3:=E2.trans E3';have q:M2.get m.nx=some (j5 r.f.cells):=by rw [E3'.old _ (by have:=E2'.nx;simp at this;omega)];exact i
 obtain⟨c,o⟩:∃c,c=iU L r.f.room+1:=⟨_,rfl⟩;have w:iU L r.f.room<=1000:=by have:=amF (λs:FR=>decide (s.f.room=r.f.room)) L;unfold iU;omega
 have k:=ak o (by omega);by_cases h1:r.f.no=(c:Int);refine⟨M2,?_,E3⟩;have l:sK L r=decide (lastB L r.f.room<=r.f.known):=by unfold sK;rw [decide_eq_true (show r.f.no=(iU L r.f.room:Int)+1 by rw [h1,o];rfl),adW]
 rw [l];by_cases h3:lastB L r.f.room<=r.f.known;simp [f55,bD b h,A8,j,i,q,t,k,h1,h3,J2];simp [f55,bD b h,A8,j,i,q,t,k,h1,h3,J2];refine⟨M1,?_,E2⟩;have l:sK L r=false:=by unfold sK;rw [decide_eq_false (show ¬ r.f.no=(iU L r.f.room:Int)+1 by intro e;apply h1;rw [e,o];rfl),aCU]
 rw [l];simp [f55,bD b h,A8,j,i,q,k,h1,J2]
theorem alj {m:Mem}{fv:d9}{L:List FR}{r:FR}(g:m.Ok)(d:m.lim<=m.nx)(o:dn m fv L)(hb:L.length<=1000)(n b:Nat)(a:2000<=b):
  ∃m',l8 KW b (n+2) (.func 58) [fv,.agg r.f.cells] m=some [⟨.bool (sK L r),m'⟩]∧Ext m m':=by
 rw [enter (sf:=f58) rfl rfl];have E1:=r9 g [j5 r.f.cells];have lim:∀{M:Mem},Ext m M->M.lim<=M.nx:=λE=>by rw [E.lim];exact nM d E.nx
 have h:=Xb (o.ext E1) hb r.f.room n b a;have l:=afQ (o.ext E1) hb r.f.room n b a;obtain⟨c,k⟩:∃c,c=iU L r.f.room+1:=⟨_,rfl⟩;have p:iU L r.f.room<=1000:=by have:=amF (λs:FR=>decide (s.f.room=r.f.room)) L;unfold iU;omega
 have i:=ak k (by omega);by_cases h1:r.f.no=(c:Int);refine⟨(ext m [j5 r.f.cells]),?_,E1⟩;have j:sK L r=decide (lastB L r.f.room<=r.f.known):=by unfold sK;rw [decide_eq_true (show r.f.no=(iU L r.f.room:Int)+1 by rw [h1,k];rfl),adW]
 rw [j];by_cases h3:lastB L r.f.room<=r.f.known;simp [f58,bD g d,A8,h,l,i,h1,h3,J2];simp [f58,bD g d,A8,h,l,i,h1,h3,J2];refine⟨(ext m [j5 r.f.cells]),?_,E1⟩;have j:sK L r=false:=by unfold sK;rw [decide_eq_false (show ¬ r.f.no=(iU L r.f.room:Int)+1 by intro e;apply h1;rw [e,k];rfl),aCU]
 rw [j];simp [f58,bD g d,A8,h,i,h1,J2]
def DkE (m:Mem)(v:d9)(ws:List By):Prop:=
 xB m v ws∨ws=[]∧∃id off,((∃c,v=.slice id off 0 c)∨v=.sliceU id off 0 1)∧id<m.nx
theorem DkE.vs {m:Mem}{v:d9}{ws:List By}(h:DkE m v ws):dB m v (strs ws):=by rcases h with h | ⟨rfl,id,off,h1,h2⟩;exact h.vs;refine .inr ⟨id,off,?_,h2,.inl rfl⟩;rcases h1 with⟨c,rfl⟩ | rfl;exact .inl ⟨c,rfl,adH _⟩;exact .inr rfl
theorem DkE.ext {m a:Mem}(e:Ext m a){v:d9}{ws:List By}(h:DkE m v ws):DkE a v ws:=by rcases h with h | ⟨rfl,id,off,h1,h2⟩;exact .inl (h.ext e);exact .inr ⟨rfl,id,off,h1,aP h2 e.nx⟩
theorem DkE.dk {m:Mem}{v:d9}{ws:List By}(h:DkE m v ws)(a:ws≠[]):xB m v ws:=by rcases h with h | ⟨rfl,_⟩;exact h;exact absurd rfl a
def Kn (v:d9):Prop:=∀i o l e,v≠.sliceU i o l e
def Vp (lo:Nat)(v:d9):Prop:=(∀i o l c,v=.slice i o l c->i<lo)∧∀i o l e,v=.sliceU i o l e->i<lo
theorem KR {α:Type}(l:List α)(o n a k:Nat)(h:a+k<=n):(((l.drop o).take n).drop a).take k=(l.drop (o+a)).take k:=by rw [List.drop_take,List.take_take,ajK,ae2 (by omega)]
theorem Vq {m:Mem}{v:d9}{ws:List By}(h:xB m v ws)(a k:Nat)(w:ws≠[])(u:a+k<=ws.length)(n:Kn v∨a<ws.length)(nid:Nat):
  ∃v',(∀(hi:Option Nat),(hi=some (a+k)∨hi=none∧a+k=ws.length)->K6 nid 1 v a hi=some (v',none))∧xB m v' ((ws.drop a).take k)∧(Kn v->Kn v')∧(∀lo,Vp lo v->Vp lo v'):=by
 rcases h with⟨rfl,h⟩ | ⟨id,off,h0,h1,h2,all,rows,h3,h4,h5,h6⟩;exact absurd h w;have g:((ws.drop a).take k).length=k:=by simp;omega
 have z:=abY.2 w;have j:(ws.drop a).take k=(all.drop (off+a)).take k:=by have e:(ws.drop a).take k=(((all.drop off).take ws.length).drop a).take k:=congrArg (λl:List By=>(l.drop a).take k) h6;rw [e,KR _ _ _ _ _ u]
 have t:Nat.ble a (a+k)=true:=qb (by omega);have x:Nat.sub (a+k) a=k:=by show a+k-a=k;omega
 rcases h1 with⟨c,rfl,hc⟩ | rfl;have f:Nat.ble (a+k) c=true:=qb (by omega);have b:K6.known 1 a id off c (a+k)=some (.slice id (bi (Nat.beq a c) off (Nat.add off (Nat.mul a 1))) k (Nat.sub c a),none):=by show bi (Nat.ble a (a+k)) (bi (Nat.ble (a+k) c) (some (d9.slice id (bi (Nat.beq a c) off (Nat.add off (Nat.mul a 1))) (Nat.sub (a+k) a) (Nat.sub c a),(none:Option Z6))) none) none=_;rw [t,f,x];rfl
 refine⟨_,λhi p=>?_,.inr ⟨id,bi (Nat.beq a c) off (Nat.add off (Nat.mul a 1)),h0,.inl ⟨Nat.sub c a,by rw [g],by rw [g];show k<=c-a;omega⟩,h2,all,rows,h3,h4,?_,?_⟩,λ_ i o l e d=>(by cases d),λlo j=>⟨λi o l y d=>(by injection d with d;rw [← d];exact j.1 id off ws.length c rfl),λi o l e d=>(by cases d)⟩⟩;rcases p with rfl | ⟨rfl,d⟩;exact b;have:K6.known 1 a id off c ws.length=_:=d▸b;exact this;rw [g];cases hbc:Nat.beq a c with
 | true=>have:=l7 hbc;show off+k<=all.length;omega
 | false=>show off+a*1+k<=all.length;omega
 rw [g,j];cases hbc:Nat.beq a c with
 | true=>
  have:=l7 hbc;have q:k=0:=by omega
  subst q;simp
 | false=>
  have e:bi false off (Nat.add off (Nat.mul a 1))=off+a:=by show off+a*1=_;omega
  rw [e]
 have s:a<ws.length:=by rcases n with n | n;exact absurd rfl (n id off ws.length 1);exact n
 have f:Nat.ble (a+k) ws.length=true:=qb u;have b:K6.unk nid 1 a id off ws.length 1 (a+k)=some (.sliceU id (Nat.add off (Nat.mul a 1)) k 1,none):=by show bi (Nat.ble a (a+k)) (bi (Nat.ble (a+k) ws.length) (bi (Nat.beq 1 1) (bi (Nat.blt a ws.length) (some (d9.sliceU id (Nat.add off (Nat.mul a 1)) (Nat.sub (a+k) a) 1,(none:Option Z6))) _) none) none) none=_;rw [t,f,x,show Nat.blt a ws.length=true from O6.mpr s];rfl
 have e:Nat.add off (Nat.mul a 1)=off+a:=by show off+a*1=_;omega
 refine⟨.sliceU id (Nat.add off (Nat.mul a 1)) k 1,λhi p=>?_,.inr ⟨id,off+a,h0,.inr (by rw [g,e]),h2,all,rows,h3,h4,by rw [g];omega,by rw [g,j]⟩,λr=>absurd rfl (r id off ws.length 1),λlo j=>⟨λi o l y d=>(by cases d),λi o l e d=>(by injection d with d;rw [← d];exact j.2 id off ws.length 1 rfl)⟩⟩;rcases p with rfl | ⟨rfl,d⟩;exact b;have:K6.unk nid 1 a id off ws.length 1 ws.length=_:=d▸b;exact this
theorem abS {x a b:OF}{ls:List d9}{env:T d9}{v:d9}{i j:Nat}(d:x ls env=v)(c:a ls env=iV (i:Int))(hb:b ls env=iV (j:Int))(nid:Nat):PU 1 x (some a) (some b) ls env nid=K6 nid 1 v i (some j):=by show jL (a ls env) (λl=>jL (b ls env) λh=>K6 nid 1 (x ls env) l (some h))=_;rw [c,lN,jB];show jL (b ls env) (λh=>K6 nid 1 (x ls env) i (some h))=_;rw [hb,lN,jB,d]
theorem abT {x b:OF}{ls:List d9}{env:T d9}{v:d9}{j:Nat}(a:x ls env=v)(hb:b ls env=iV (j:Int))(nid:Nat):PU 1 x none (some b) ls env nid=K6 nid 1 v 0 (some j):=by show jL (b ls env) (λh=>K6 nid 1 (x ls env) 0 (some h))=_;rw [hb,lN,jB,a]
theorem abU {x a:OF}{ls:List d9}{env:T d9}{v:d9}{i:Nat}(c:x ls env=v)(b:a ls env=iV (i:Int))(nid:Nat):PU 1 x (some a) none ls env nid=K6 nid 1 v i none:=by show jL (a ls env) (λl=>K6 nid 1 (x ls env) l none)=_;rw [b,lN,jB,c]
theorem Xc {m:Mem}{v:d9}{ws:List By}(s:m.Ok)(h:xB m v ws)(a:Nat)(j:ws≠[])(r:a<=ws.length):
  ∃v' b,K6 m.nx 1 v a none=some (v',b)∧((b=none∧xB m v' (ws.drop a)∧∀lo,Vp lo v->Vp lo v')∨∃i,b=some (.tail i)∧DkE (m.new (.tail i)) v' (ws.drop a)∧ws.drop a=[])∧(Kn v->Kn v'):=by
 by_cases hz:Kn v∨a<ws.length;obtain⟨v',f,g,n,p⟩:=Vq h a (ws.length-a) j (by omega) hz m.nx;refine⟨v',none,f none (.inr ⟨rfl,by omega⟩),.inl ⟨rfl,?_,p⟩,n⟩;rw [aaF (by simp)] at g;exact g;have d:¬ Kn v:=λe=>hz (.inl e);have k:a=ws.length:=by have:¬ a<ws.length:=λe=>hz (.inr e);omega
 rcases h with⟨rfl,h⟩ | ⟨id,off,h0,f,g,all,rows,n,p,h5,h6⟩;exact absurd h j;rcases f with⟨c,rfl,hc⟩ | rfl;exact absurd (λi o l e q=>by cases q) d;subst k;refine⟨.sliceU m.nx 0 0 1,some (.tail id),?_,.inr ⟨id,rfl,.inr ⟨zu (aA _),m.nx,0,.inr rfl,by simp⟩,zu (aA _)⟩,λe=>absurd e d⟩;have t:=abY.2 j;show bi (Nat.ble ws.length ws.length) (bi (Nat.ble ws.length ws.length) (bi (Nat.beq 1 1) (bi (Nat.blt ws.length ws.length) _ (bi (Nat.beq ws.length 0) _ (some (d9.sliceU m.nx 0 0 1,some (Z6.tail id))))) none) none) none=_;rw [show Nat.ble ws.length ws.length=true from qb (aA _),show Nat.blt ws.length ws.length=false from aaD.2 λe=>by have:=O6.mp e;omega,show Nat.beq ws.length 0=false from aaD.2 λe=>by have:=l7 e;omega];rfl
theorem Rec.of {b:Nat}{a:List By}{r:FR}{k:Nat}(c:b<=200)(d:r.valid=true)(h:oJ (b:Int) (D8 r)=a.take (k+1)):Rec b a r:=⟨c,NA d h.symm⟩
theorem Rec.head {b:Nat}{a:List By}{r:FR}(h:Rec b a r):rX a=some (chunks (D8 r)).length:=abM h.2
theorem KS (c:UInt8):∀u:By,(∃k:Nat,oI c u=(k:Int)∧k<u.length∧AY c u=u.take k::AY c (u.drop (k+1)))∨oI c u=-1∧AY c u=[u]
 | []=>.inr ⟨rfl,rfl⟩
 | b::l=>by
  have hi:oI c (b::l)=bi (Nat.beq b.toNat c.toNat) 0 (bi (uJ (oI c l) (Int.negSucc 0)) (Int.negSucc 0) (oI c l+1)):=rfl;cases hb:Nat.beq b.toNat c.toNat with
  | true=>exact .inl ⟨0,by rw [hi,hb];rfl,by simp,by rw [qM,hb];rfl⟩
  | false=>rw [hb] at hi;rcases KS c l with⟨k,h1,h2,h3⟩ | ⟨h1,h3⟩;refine .inl ⟨k+1,?_,by simp;omega,by rw [qM,hb,h3];rfl⟩;rw [hi,h1,ni,show ((k:Int)==Int.negSucc 0)=false from by simp];rfl;exact .inr ⟨by rw [hi,h1];rfl,by rw [qM,hb,h3];rfl⟩
theorem SA (c:UInt8):∀u:By,(AY c u).length=nD c u+1∧nD c u<=u.length
 | []=>⟨rfl,aA _⟩
 | b::l=>by
  obtain⟨h1,h2⟩:=SA c l;have hi:nD c (b::l)=bi (Nat.beq b.toNat c.toNat) (Nat.succ (nD c l)) (nD c l):=rfl;obtain⟨h,t,e⟩:=OJ c l;rw [qM,e,hi];rw [e] at h1;cases Nat.beq b.toNat c.toNat with
  | true=>exact⟨by simpa using h1,by simp;omega⟩
  | false=>exact⟨by simpa using h1,by simp;omega⟩
theorem aDJ {z:List d9}{x y:OF}{ls:List d9}{env:T d9}{nid a:Nat}(b:x ls env=iV (a:Int))(c:y ls env=iV (a:Int))(d:a<=2000000):
  iG 1 16 z x y ls env nid=some (.slice nid 0 a a,some (.cells 1 a (T.rep z a .e 0))):=by
 unfold iG;rw [b,c];show bi (Nat.ble a a) (bi (Nat.ble (Nat.mul 16 a) 281474976710656) (bi (Nat.blt a 9223372036854775808) _ none) none) none=_;rw [qb (aA a),qb (show Nat.mul 16 a<=281474976710656 from by show 16*a<=_;omega),O6.mpr (show a<9223372036854775808 by omega)];rfl
def BkS (m:Mem)(id:Nat)(D:List By):Prop:=id<m.nx∧∃t,m.get id=some (.cells 1 D.length t)∧T.Ok t D.length∧∀j (h:j<D.length),t.get j=some [.str D[j]]
theorem NC {id:Nat}{m:Mem}{D:List By}(h:BkS m id D)(l:m.Ok)(b:m.lim<=id){i:Nat}(hi:i<D.length)(s:By):
  ∃m',(∀{β:Type} (k:Mem->Option β),storeAt m id i [.str s] k=k m')∧BkS m' id (D.set i s)∧dh id m m':=by
 obtain⟨d,t,p,f,n⟩:=h;have c:=n i hi;have v:bX 1 D.length t i [.str s]=some (t.put i [.str s]):=by have u:Nat.div i 1=i:=Nat.div_one i;have w:Nat.mod i 1=0:=Nat.mod_one i;unfold bX;rw [u,w,show Nat.blt i D.length=true from O6.mpr hi,c];rfl
 refine⟨m.set id (.cells 1 D.length (t.put i [.str s])),λk=>?_,⟨by simpa using d,t.put i [.str s],by rw [Mem.U6 l d,if_pos rfl];simp,by simpa using T.Ok.put f i _ (by omega),λj o=>?_⟩,⟨Mem.Ok.set l d _,by simp,rfl,λj o q=>by rw [Mem.U6 l d,if_neg q]⟩⟩;have r:I7 [d9.str s]=true:=rfl;rw [bW b r,p];show ob (ob (bX 1 D.length t i [.str s]) λa=>some (Z6.cells 1 D.length a)) _=_;rw [v];rfl;have g:j<D.length:=by simpa using o
 rw [aCM];split;rename_i e;subst e;exact T.aW f _ _ (by omega);rename_i e;rw [T.bV f _ _ _ (by omega) e];exact n j g
theorem abV {id k:Nat}{c:UInt8}(W:k<=1000000)(n w:Nat):∀(j i:Nat),i+j=k->∀(N:Nat),j<N->∀(M:Mem),M.Ok->M.lim<=id->∀(u:By) (D:List By),u.length<1000000->(AY c u).length=j+1->BkS M id D->D.length=k+1->∀(a7 a8 a9:d9),
  ∃u' D' b8 b9 M',J5 (λenv m k=>Km (l8 KW w (n+1)) w none env m k) N (aky (iN k) fV (.str [c]) fV (.str u) tV (iN i) a7 a8 a9 (.slice id 0 (k+1) (k+1)) iZ nS) M []=some [⟨.exit 0,(aky (iN k) fV (.str [c]) fV (.str u') tV (iN k) fV b8 b9 (.slice id 0 (k+1) (k+1)) iZ nS),M',[],none⟩]∧dh id M M'∧BkS M' id D'∧D'.length=k+1∧D'.take k ++ [u']=D.take i++AY c u:=by
 intro j;induction j with
 | zero=>
  intro i hi N Q M B a u D J o y b a7 a8 a9;obtain⟨N,rfl⟩:∃k,N=k+1:=⟨N-1,by omega⟩;obtain rfl:i=k:=by omega
  refine⟨u,D,a8,a9,M,?_,dh.refl B,y,b,?_⟩;rw [l9];simp [Km,o9,w9,A8];rcases KS c u with⟨q,h1,h2,h3⟩ | ⟨h1,h3⟩;obtain⟨h,t,e⟩:=OJ c (u.drop (q+1));rw [h3,e] at o;simp at o;rw [h3]
 | succ j ih=>
  intro i hi N Q M B a u D J o y b a7 a8 a9;obtain⟨N,rfl⟩:∃k,N=k+1:=⟨N-1,by omega⟩;have F:i<k:=by omega
  rcases KS c u with⟨q,h1,h2,h3⟩ | ⟨h1,h3⟩;have I:=aaT u c J n w M;rw [h1] at I;obtain⟨M2,V,A,X2⟩:=NC y B a (i:=i) (by omega) (u.take q);obtain⟨S,r⟩:∃d,d=i+1:=⟨_,rfl⟩;obtain⟨K,p⟩:∃d,d=q+1:=⟨_,rfl⟩;have L:=ak r (by omega);have O:=ak p (by omega);have P:lI (q:Int)=(q:Int):=Z8 (by omega) (by omega);obtain⟨u',D',b8,b9,M',g,X,z,E,R⟩:=ih S (by omega) N (by omega) M2 X2.ok (by rw [X2.lim];exact a) (u.drop K) (D.set i (u.take q)) (by simp;omega) (by rw [h3] at o;rw [p];simpa using o) A (by simpa using b) tV (iN q) fV;refine⟨u',D',b8,b9,M',?_,X2.trans X,z,E,?_⟩;have T:=λx hi ls env H C=>Rh (x:=x) (hi:=hi) (ls:=ls) (env:=env) (s:=u) (h:=q) H C (by omega);have U:=λx lo ls env H C=>JX (x:=x) (lo:=lo) (ls:=ls) (env:=env) (s:=u) (l:=K) H C (by omega);have v:∀{β:Type} (f:Nat->Option β),idx (k+1) (iV (i:Int)) f=f i:=λf=>au (k+1) i f (by omega);have G:¬ (q:Int)<0:=by omega
  rw [l9,← g];simp [Km,o9,w9,A8,F,I,G,L,O,P,T,U,v,V];rw [R,h3,r,List.take_set,p];have:i<(D.take (i+1)).length:=by simp;omega
  rw [O4 (by omega),amG _ _ (by simp;omega)];simp [show min i D.length=i from by omega];rw [h3] at o;simp at o
theorem afR (s:By)(c:UInt8)(hs:s.length<1000000)(n o:Nat)(a0:s.length+1<=o){m:Mem}(O:m.Ok)(N:m.lim<=m.nx):
  ∃v m',l8 KW o (n+2) (.func 177) [.str s,.str [c],iZ,iV (-1)] m=some [⟨v,m'⟩]∧Ext m m'∧xw m' v (strs (AY c s)):=by
 obtain⟨K,Z⟩:=SA c s;obtain⟨k,hk⟩:∃k,k=nD c s:=⟨_,rfl⟩;have J:=aaU s c hs n o m;rw [← hk] at K Z J;obtain⟨k1,l⟩:∃d,d=k+1:=⟨_,rfl⟩;obtain⟨l1,H⟩:∃d,d=s.length+1:=⟨_,rfl⟩;have V:=ak l (by omega);have W:=ak H (by omega);have Y:=wN (a:=k1) (p:=k) (by omega) (by omega);have pm:∀(x y:OF) (ls:List d9) (env:T d9),x ls env=iV (k1:Int)->y ls env=iV (l1:Int)->SX false x [y] ls env=some (iV (k1:Int)):=λx y ls env w I=>by rw [Iz w I,ae2 (by omega)]
 have mk:=λ(x y:OF) (ls:List d9) (env:T d9) (nid:Nat) w I=>aDJ (z:=[.str []]) (x:=x) (y:=y) (ls:=ls) (env:=env) (nid:=nid) (a:=k1) w I (by omega);obtain⟨M,h⟩:∃M,M=ext m [.cells 1 k1 (T.rep [.str []] k1 .e 0)]:=⟨_,rfl⟩;have E:Ext m M:=by rw [h];exact r9 O _
 have hD:BkS M m.nx (List.replicate k1 []):=⟨by simp [h],T.rep [.str []] k1 .e 0,by rw [h,j6 O];simp,by have:=T.NR [d9.str []] k1 .e 0 .e;simpa using this,λj F=>by
  have F:j<k1:=by simpa using F
  rw [T.NS _ _ _ _ .e];simp [F]⟩
 obtain⟨P,D',b8,b9,M',g,X,B,G,L⟩:=abV (id:=m.nx) (k:=k) (c:=c) (by omega) n o k 0 (by omega) o (by omega) M E.ok (by rw [E.lim];exact N) s (List.replicate k1 []) hs K hD (by simp [l]) uV uV uV;rw [akx,aaE] at L;obtain⟨M2,s2,q,X2⟩:=NC B X.ok (by rw [X.lim,E.lim];exact N) (i:=k) (by omega) P;have C:D'.set k P=AY c s:=by
  rw [← L];have:D'=D'.take k ++ [D'[k]'(by omega)]:=by rw [← O4 (by omega),← G,agL]
  conv=>lhs;rw [this]
  rw [amG _ _ (by simp;omega)];simp [show min k D'.length=k from by omega]
 rw [C] at q;have r:∀{β:Type} (f:Nat->Option β),idx k1 (iV (k:Int)) f=f k:=λf=>au k1 k f (by omega);have Q:=λ(x b:OF) (ls:List d9) (env:T d9) (w:x ls env=.slice m.nx 0 k1 k1) (hb:b ls env=(iN k1))=>abT w hb M2.nx;have A:K6 M2.nx 1 (.slice m.nx 0 k1 k1) 0 (some k1)=some (.slice m.nx 0 k1 k1,none):=by show K6.known 1 0 m.nx 0 k1 k1=_;show bi (Nat.ble 0 k1) (bi (Nat.ble k1 k1) (some (d9.slice m.nx (bi (Nat.beq 0 k1) 0 (Nat.add 0 (Nat.mul 0 1))) (Nat.sub k1 0) (Nat.sub k1 0),(none:Option Z6))) none) none=_;rw [qb (adH k1),qb (aA k1),show Nat.beq 0 k1=false from by rw [l];rfl,show Nat.mul 0 1=0 from rfl,show Nat.sub k1 0=k1 from rfl];rfl
 obtain⟨R,t,S,d3,U⟩:=q;have u:(AY c s).length=k1:=by omega
 refine⟨.slice m.nx 0 k1 k1,M2,?_,?_,?_⟩;rw [enter (sf:=f177) rfl rfl];have a1:¬ (k1:Int)=0:=by omega
 rw [← l] at g;rw [h] at g;simp at g;simp [f177,o9,w9,A8,J,V,W,Y,pm,mk,g,r,s2,Q,A];exact E.qp (X.trans X2) (aA _);refine⟨m.nx,0,k1,by rw [G8,u],by rw [G8];omega,R,.inr ⟨_,t,S,by rw [G8,W9];exact aA _,λi hi=>?_⟩⟩;have D:i<(AY c s).length:=by rwa [G8] at hi
 rw [W9,U i D];simp [strs]
theorem abW (s:By)(c:UInt8)(hs:s.length<1000000)(n a:Nat)(b:s.length+1<=a){m:Mem}(e:m.Ok)(d:m.lim<=m.nx):
  ∃v m',l8 KW a (n+3) (.func 92) [.str s,.str [c]] m=some [⟨v,m'⟩]∧Ext m m'∧xw m' v (strs (AY c s)):=by
 obtain⟨v,m',g,E,h⟩:=afR s c hs n a b e d;have f:=λ{β:Type} (p:d9->β) q=>h.vs.aY p q;refine⟨v,m',?_,E,h⟩;rw [enter (sf:=f92) rfl rfl];simp [f92,o9,w9,A8,g,f]
end Go.Proofs.YtfnlnpllpfhhnaaGreatDoor.TT
