/- Counting and comparing statements, walked; conditions: the memory holds what the arguments say. -/
import Derived.Test.YteecnooaopfkeaaGreatDoorPD1
set_option linter.all false
namespace Go.Proofs.YteecnooaopfkeaaGreatDoor.TT
open Go Go.AM
mutual
def sQ:Ex->Nat
 | .mk _ _ _ a=>1+aR a
def aR:List Ex->Nat
 | []=>0
 | e::l=>sQ e+aR l
end
mutual
def CJ:Ex->Nat
 | .mk _ _ _ a=>1+eP a
def eP:List Ex->Nat
 | []=>0
 | e::l=>max (CJ e) (eP l)
end
mutual
def stP:dO->Nat
 | .mk _ _ e t f=>1+aR e+aN t+aN f
def aN:List dO->Nat
 | []=>0
 | s::l=>stP s+aN l
end
mutual
def Gn:dO->Nat
 | .mk _ _ e t f=>1+max (eP e) (max (iQ t) (iQ f))
def iQ:List dO->Nat
 | []=>0
 | s::l=>max (Gn s) (iQ l)
end
def oH (l:List dO):Int×Int:=if aN l<=500∧iQ l<=20 then (aN l,iQ l) else (-1,-1)
def comb (a b:Nat×Nat):Nat×Nat:=(a.1+b.1,max a.2 b.2)
def gF (s:Nat×Nat)(l:List (Nat×Nat)):Nat×Nat:=l.foldl comb s
mutual
def bE:Nat->Ex->Nat×Nat
 | d,.mk _ _ _ a=>gF (1,1) (zI d a)
def zI:Nat->List Ex->List (Nat×Nat)
 | _,[]=>[]
 | 0,_ :: _=>[(0,21)]
 | d+1,e::l=>((bE d e).1,(bE d e).2+1)::zI (d+1) l
end
mutual
def YR:Nat->dO->Nat×Nat
 | d,.mk _ _ e t f=>comb (comb (gF (1,1) (zI (d-1) e)) ((bS (d-1) t).1,(bS (d-1) t).2+1)) ((bS (d-1) f).1,(bS (d-1) f).2+1)
def bS:Nat->List dO->Nat×Nat
 | _,[]=>(0,0)
 | 0,_ :: _=>(0,21)
 | d+1,s::l=>comb (YR (d+1) s) (bS (d+1) l)
end
theorem IK:∀(l:List (Nat×Nat)) (s:Nat×Nat),(gF s l).1=s.1+(l.map (·.1)).sum∧s.2<=(gF s l).2∧(∀x∈l,x.2<=(gF s l).2)∧∀B,s.2<=B->(∀x∈l,x.2<=B)->(gF s l).2<=B
 | [],s=>⟨by simp [gF],J2 _,by simp,λB h _=>h⟩
 | x::l,s=>by
  obtain⟨h1,h2,h3,h4⟩:=IK l (comb s x);have e:gF s (x::l)=gF (comb s x) l:=rfl;rw [e];refine⟨?_,?_,?_,?_⟩;rw [h1];simp [comb];omega;have:s.2<=(comb s x).2:=by simp [comb];omega
  omega;intro y hy;rcases Z7.1 hy with rfl | hy;have:y.2<=(comb s y).2:=by simp [comb];omega
  omega;exact h3 y hy;intro B hs hB;refine h4 B ?_ λy hy=>hB y (by simp [hy]);have:=hB x (by simp);simp [comb];omega
structure WOk (d:Nat)(a:List Ex)(w:List (Nat×Nat)):Prop where
 ex:eP a<=d->(w.map (·.1)).sum=aR a∧(∀x∈w,x.2<=eP a+1)∧(a≠[]->∃x∈w,x.2=eP a+1)
 big:d<eP a->∃x∈w,21<=x.2
 le:(w.map (·.1)).sum<=aR a
 lv:∀x∈w,x.2<=21+d
 len:w.length<=a.length
theorem zJ {d:Nat}{a:List Ex}{w:List (Nat×Nat)}(h:WOk d a w):(eP a<=d->gF (1,1) w=(1+aR a,1+eP a))∧(d<eP a->21<=(gF (1,1) w).2)∧(gF (1,1) w).1<=1+aR a∧(gF (1,1) w).2<=21+d:=by
 obtain⟨h1,h2,h3,h4⟩:=IK w (1,1);refine⟨λhd=>?_,λhd=>?_,?_,?_⟩;obtain⟨a1,a2,a3⟩:=h.ex hd;have e2:(gF (1,1) w).2=1+eP a:=by by_cases ha:a=[];subst ha;have:w=[]:=abZ.1 (Nat.le_zero.1 (by simpa using h.len));subst this;rfl;obtain⟨x,hx,hx2⟩:=a3 ha;have b1:=h3 x hx;have b2:=h4 (eP a+1) (by simp) a2;omega
 rw [afq];exact⟨by rw [h1,a1],e2⟩;obtain⟨x,hx,hx2⟩:=h.big hd;have:=h3 x hx;omega;rw [h1];have:=h.le;simp;omega
 exact h4 _ (by simp;omega) h.lv
mutual
theorem VT:∀(e:Ex) (d:Nat),(CJ e<=d+1->bE d e=(sQ e,CJ e))∧(d+1<CJ e->21<=(bE d e).2)∧(bE d e).1<=sQ e∧(bE d e).2<=21+d
 | .mk k n s a,d=>by have h:=zJ (vE a d);rw [bE,CJ,sQ];exact⟨λhd=>h.1 (by omega),λhd=>h.2.1 (by omega),h.2.2.1,h.2.2.2⟩
theorem vE:∀(a:List Ex) (d:Nat),WOk d a (zI d a)
 | [],d=>⟨λ_=>⟨rfl,by simp [zI],λh=>absurd rfl h⟩,λh=>by simp [eP] at h,by simp [zI,aR],by simp [zI],by simp [zI]⟩
 | e::l,0=>by
  have he:1<=CJ e:=by cases e;simp [CJ]
  refine⟨λh=>?_,λ_=>⟨(0,21),by simp [zI],by simp⟩,by simp [zI],by simp [zI],by simp [zI]⟩;rw [eP] at h;omega
 | e::l,d+1=>by
  obtain⟨h1,h2,h3,h4⟩:=VT e d;have H:=vE l (d+1);refine⟨λh=>?_,λh=>?_,?_,?_,?_⟩;rw [eP] at h;obtain⟨a1,a2,a3⟩:=H.ex (by omega);have e1:=h1 (by omega);rw [zI,eP,aR,e1];refine⟨by simp [a1],λx hx=>?_,λ_=>?_⟩;rcases Z7.1 hx with rfl | hx;simp;omega;have:=a2 x hx;omega;by_cases hc:eP l<=CJ e;exact⟨(sQ e,CJ e+1),by simp,by simp;omega⟩;have hl:l≠[]:=by rintro rfl;simp [eP] at hc
  obtain⟨x,hx,hx2⟩:=a3 hl;exact⟨x,by simp [hx],by omega⟩;rw [eP] at h;rw [zI];by_cases hc:d+1<CJ e;have:=h2 hc;exact⟨((bE d e).1,(bE d e).2+1),by simp,by simp;omega⟩;obtain⟨x,hx,hx2⟩:=H.big (by omega);exact⟨x,by simp [hx],hx2⟩;rw [zI,aR];have:=H.le;simp;omega
  rw [zI];intro x hx;rcases Z7.1 hx with rfl | hx;simp;omega;exact H.lv x hx;rw [zI];have:=H.len;simpa using this
end
mutual
theorem acr:∀(s:dO) (d:Nat),(Gn s<=d+1->YR (d+1) s=(stP s,Gn s))∧(d+1<Gn s->21<=(YR (d+1) s).2)∧(YR (d+1) s).1<=stP s∧(YR (d+1) s).2<=22+d
 | .mk k n e t f,d=>by obtain⟨e1,e2,e3,e4⟩:=zJ (vE e d);obtain⟨t1,t2,t3,t4⟩:=IL t d;obtain⟨f1,f2,f3,f4⟩:=IL f d;rw [YR,Gn,stP];simp only [aiC];refine⟨λh=>?_,λh=>?_,?_,?_⟩;rw [e1 (by omega),t1 (by omega),f1 (by omega)];simp only [comb];rw [afq];exact⟨rfl,by simp only;omega⟩;simp only [comb];by_cases hc:d<eP e;have:=e2 hc;omega;by_cases hc2:d<iQ t;have:=t2 hc2;omega;have:=f2 (by omega);omega;simp only [comb];omega;simp only [comb];omega
theorem IL:∀(l:List dO) (d:Nat),(iQ l<=d->bS d l=(aN l,iQ l))∧(d<iQ l->21<=(bS d l).2)∧(bS d l).1<=aN l∧(bS d l).2<=21+d
 | [],d=>⟨λ_=>by simp [bS,aN,iQ],λh=>by simp [iQ] at h,by simp [bS],by simp [bS]⟩
 | s::l,0=>by
  have hs:1<=Gn s:=by cases s;simp [Gn]
  refine⟨λh=>?_,λ_=>by simp [bS],by simp [bS],by simp [bS]⟩;rw [iQ] at h;omega
 | s::l,d+1=>by obtain⟨s1,s2,s3,s4⟩:=acr s d;obtain⟨l1,l2,l3,l4⟩:=IL l (d+1);rw [bS,iQ,aN];simp only [comb];refine⟨λh=>?_,λh=>?_,?_,?_⟩;rw [s1 (by omega),l1 (by omega)];by_cases hc:d+1<Gn s;have:=s2 hc;omega;have:=l2 (by omega);omega;omega;omega
end
theorem VU (l:List dO):(if 500<(bS 22 l).1∨20<(bS 22 l).2 then ((-1,-1):Int×Int) else (((bS 22 l).1:Int),((bS 22 l).2:Int)))=oH l:=by obtain⟨h1,h2,h3,h4⟩:=IL l 22;unfold oH;by_cases h:iQ l<=22;rw [h1 h];by_cases h5:aN l<=500∧iQ l<=20;rw [if_neg (by simp only;omega),if_pos h5];rw [if_pos (by simp only;omega),if_neg h5];rw [if_pos (.inr (by have:=h2 (by omega);omega)),if_neg (by omega)]
mutual
def rE:Nat->Ex->Nat×Nat
 | d,.mk _ _ _ a=>qb d a (1,1)
def qb:Nat->List Ex->Nat×Nat->Nat×Nat
 | _,[],o=>o
 | d,e::l,o=>if 500<o.1 then o else if 20<d then (501,21) else qb d l (o.1+(rE (d+1) e).1,max o.2 ((rE (d+1) e).2+1))
end
def Oa:Nat->List Ex->Nat×Nat->Nat×Nat
 | _,[],o=>o
 | d,e::l,o=>if 500<o.1 then o else Oa d l (o.1+(rE (d+1) e).1,max o.2 ((rE (d+1) e).2+1))
mutual
def Pz:Nat->dO->Nat×Nat
 | d,.mk _ _ e t f=>if 20<d then (501,21) else
  ((Oa d e (1,1)).1+(xZ (d+1) t (0,0)).1+(xZ (d+1) f (0,0)).1,max (Oa d e (1,1)).2 (max ((xZ (d+1) t (0,0)).2+1) ((xZ (d+1) f (0,0)).2+1)))
def xZ:Nat->List dO->Nat×Nat->Nat×Nat
 | _,[],o=>o
 | d,s::l,o=>if 500<o.1 then o else xZ d l (o.1+(Pz d s).1,max o.2 (Pz d s).2)
end
mutual
theorem QT:∀(e:Ex) (d:Nat),d<=21->(CJ e+d<=22∧sQ e<=500->rE d e=(sQ e,CJ e))∧(¬ (CJ e+d<=22∧sQ e<=500)->501<=(rE d e).1)∧(rE d e).1<=501+500*(21-d)∧(rE d e).2<=21+(21-d)
 | .mk k n s a,d,hd=>by obtain⟨h1,h2,h3,h4⟩:=NA a d 1 1 hd (by omega) (by omega);rw [rE,CJ,sQ];refine⟨λh=>?_,λh=>h2 (by omega),h3 (by omega),h4⟩;rw [h1 (by omega),afq];exact⟨rfl,by simp only;omega⟩
theorem NA:∀(a:List Ex) (d p l:Nat),d<=21->1<=l->l<=21+(21-d)->(eP a+d<=21∧p+aR a<=500->qb d a (p,l)=(p+aR a,max l (eP a+1)))∧(¬ (eP a+d<=21∧p+aR a<=500)->501<=(qb d a (p,l)).1)∧
  (p<=501+500*(21-d)->(qb d a (p,l)).1<=501+500*(21-d))∧(qb d a (p,l)).2<=21+(21-d)
 | [],d,p,l,hd,hl,hl2=>by rw [qb,eP,aR];refine⟨λh=>?_,λh=>by simp only;omega,λh=>h,hl2⟩;rw [afq];exact⟨rfl,by simp only;omega⟩
 | e::a,d,p,l,hd,hl,hl2=>by
  have he:1<=CJ e∧1<=sQ e:=by cases e;simp [CJ,sQ]
  rw [qb];by_cases hp:500<p;rw [if_pos hp];exact⟨λh=>by omega,λ_=>by simp only;omega,λh=>h,hl2⟩;rw [if_neg hp];by_cases h20:20<d;rw [if_pos h20,eP];exact⟨λh=>by omega,λ_=>by simp,λ_=>by simp only;omega,by simp only;omega⟩;rw [if_neg h20];obtain⟨e1,e2,e3,e4⟩:=QT e (d+1) (by omega);have hl3:max l ((rE (d+1) e).2+1)<=21+(21-d):=by omega
  obtain⟨a1,a2,a3,a4⟩:=NA a d (p+(rE (d+1) e).1) (max l ((rE (d+1) e).2+1)) hd (by omega) hl3;rw [eP,aR];refine⟨λh=>?_,λh=>?_,λh=>a3 (by omega),a4⟩;have x:=e1 (by omega);rw [x] at a1 ⊢;rw [a1 (by simp only;omega),afq];exact⟨by simp only;omega,by simp only;omega⟩;by_cases hc:CJ e+(d+1)<=22∧sQ e<=500;have x:=e1 hc;rw [x] at a2 ⊢;exact a2 (by simp only;omega);have x:=e2 hc;refine a2 ?_;omega
end
theorem PD:∀(a:List Ex) (d p l:Nat),d<=20->1<=l->l<=21+(21-d)->(eP a+d<=21∧p+aR a<=500->Oa d a (p,l)=(p+aR a,max l (eP a+1)))∧(¬ (eP a+d<=21∧p+aR a<=500)->501<=(Oa d a (p,l)).1)∧
  (p<=501+500*(21-d)->(Oa d a (p,l)).1<=501+500*(21-d))∧(Oa d a (p,l)).2<=21+(21-d)∧1<=(Oa d a (p,l)).2
 | [],d,p,l,hd,hl,hl2=>by rw [Oa,eP,aR];refine⟨λh=>?_,λh=>by simp only;omega,λh=>h,hl2,hl⟩;rw [afq];exact⟨rfl,by simp only;omega⟩
 | e::a,d,p,l,hd,hl,hl2=>by rw [Oa];by_cases hp:500<p;rw [if_pos hp];exact⟨λh=>by omega,λ_=>by simp only;omega,λh=>h,hl2,hl⟩;rw [if_neg hp];obtain⟨e1,e2,e3,e4⟩:=QT e (d+1) (by omega);obtain⟨a1,a2,a3,a4,a5⟩:=PD a d (p+(rE (d+1) e).1) (max l ((rE (d+1) e).2+1)) hd (by omega) (by omega);rw [eP,aR];refine⟨λh=>?_,λh=>?_,λh=>a3 (by omega),a4,a5⟩;have x:=e1 (by omega);rw [x] at a1 ⊢;rw [a1 (by simp only;omega),afq];exact⟨by simp only;omega,by simp only;omega⟩;by_cases hc:CJ e+(d+1)<=22∧sQ e<=500;have x:=e1 hc;rw [x] at a2 ⊢;exact a2 (by simp only;omega);have x:=e2 hc;exact a2 (by omega)
mutual
theorem VW:∀(s:dO) (d:Nat),1<=d->d<=21->(Gn s+d<=21∧stP s<=500->Pz d s=(stP s,Gn s))∧(¬ (Gn s+d<=21∧stP s<=500)->501<=(Pz d s).1∨22<=(Pz d s).2+d)∧(Pz d s).1<=20000*3^(21-d)∧(Pz d s).2+d<=64
 | .mk k n e t f,d,hd1,hd=>by
  rw [Pz];by_cases h20:20<d;rw [if_pos h20,Gn];refine⟨λh=>by omega,λ_=>by simp,?_,by simp only;omega⟩;have:=Nat.one_le_pow (21-d) 3 (by omega);simp only;omega;rw [if_neg h20];obtain⟨e1,e2,e3,e4,e5⟩:=PD e d 1 1 (by omega) (by omega) (by omega);obtain⟨t1,t2,t3,t4⟩:=yc t (d+1) 0 0 (by omega) (by omega) (by omega);obtain⟨f1,f2,f3,f4⟩:=yc f (d+1) 0 0 (by omega) (by omega) (by omega);rw [Gn,stP];refine⟨λh=>?_,λh=>?_,?_,?_⟩;rw [e1 (by omega),t1 (by omega),f1 (by omega),afq];exact⟨by simp only;omega,by simp only;omega⟩;by_cases hc:eP e+d<=21∧1+aR e<=500;by_cases hc2:iQ t+(d+1)<=21∧0+aN t<=500;by_cases hc3:iQ f+(d+1)<=21∧0+aN f<=500;rw [e1 hc,t1 hc2,f1 hc3];simp only;omega;have:=f2 hc3;simp only;omega;have:=t2 hc2;simp only;omega;have:=e2 hc;simp only;omega;have a1:=e3 (by omega);have a2:=t3 (by omega);have a3:=f3 (by omega);have hp:3^(21-d)=3*3^(21-(d+1)):=by rw [show 21-d=(21-(d+1))+1 from by omega,Nat.pow_succ];omega
  have:=Nat.one_le_pow (21-(d+1)) 3 (by omega);simp only;omega;simp only;omega
theorem yc:∀(l:List dO) (d p v:Nat),1<=d->d<=21->v+d<=64->(iQ l+d<=21∧p+aN l<=500->xZ d l (p,v)=(p+aN l,max v (iQ l)))∧(¬ (iQ l+d<=21∧p+aN l<=500)->501<=(xZ d l (p,v)).1∨22<=(xZ d l (p,v)).2+d)∧
  (p<=500+20000*3^(21-d)->(xZ d l (p,v)).1<=500+20000*3^(21-d))∧(xZ d l (p,v)).2+d<=64∧p<=(xZ d l (p,v)).1∧v<=(xZ d l (p,v)).2
 | [],d,p,v,hd1,hd,hv=>by rw [xZ,iQ,aN];refine⟨λh=>?_,λh=>by simp only;omega,λh=>h,hv,J2 _,J2 _⟩;rw [afq];exact⟨rfl,by simp only;omega⟩
 | s::l,d,p,v,hd1,hd,hv=>by
  have hs:1<=Gn s∧1<=stP s:=by cases s;simp [Gn,stP];omega
  rw [xZ];by_cases hp:500<p;rw [if_pos hp];exact⟨λh=>by omega,λ_=>by simp only;omega,λh=>h,hv,J2 _,J2 _⟩;rw [if_neg hp];dsimp only at hp ⊢;obtain⟨s1,s2,s3,s4⟩:=VW s d hd1 hd;obtain⟨l1,l2,l3,l4,l5,l6⟩:=yc l d (p+(Pz d s).1) (max v (Pz d s).2) hd1 hd (by omega);rw [iQ,aN];refine⟨λh=>?_,λh=>?_,λh=>l3 (by omega),l4,by omega,by omega⟩;have x:=s1 (by omega);rw [x] at l1 ⊢;rw [l1 (by simp only;omega),afq];exact⟨by simp only;omega,by simp only;omega⟩;by_cases hc:Gn s+d<=21∧stP s<=500;have x:=s1 hc;rw [x] at l2 ⊢;exact l2 (by simp only;omega);have x:=s2 hc;rcases x with x | x;exact .inl (by omega);exact .inr (by omega)
end
theorem Tm (l:List dO):(if 500<(xZ 1 l (0,0)).1∨20<(xZ 1 l (0,0)).2 then ((-1,-1):Int×Int) else (((xZ 1 l (0,0)).1:Int),((xZ 1 l (0,0)).2:Int)))=oH l:=by obtain⟨h1,h2,h3,h4,h5,h6⟩:=yc l 1 0 0 (by omega) (by omega) (by omega);unfold oH;by_cases h:iQ l+1<=21∧0+aN l<=500;rw [h1 h,if_neg (by simp only;omega),if_pos (by omega)];simp;rw [if_pos (by have:=h2 h;omega),if_neg (by omega)]
set_option maxRecDepth 100000
set_option maxHeartbeats 8000000
def C9 (x:Nat×Nat):List j3:=[iV (x.1:Int),iV (x.2:Int)]
def iJ (l:List (Nat×Nat)):List (List j3):=l.map C9
theorem yg (l:List (Nat×Nat)):(iJ l).length=l.length:=by simp [iJ]
def Small (l:List (Nat×Nat)):Prop:=l.length<=100000∧∀x∈l,x.1<=10000000000000∧x.2<=1000000
theorem zK {β:Type}{m:Mem}(hm:m.Ok){p:Nat}(hp:p<m.nx)(hl:m.lim<=p)(l:List O9)(off:Nat)(vs:List j3)(k:Mem->Option β):storeAt (ext m l) p off vs k=bi (O0 vs) (ob (FD (m.get p) off vs) λb=>k ((ext m l).set p b)) none:=by rw [rY (by rw [Qy];exact hl),U8 hm l hp]
structure At (p:Nat)(m M:Mem):Prop where
 lt:p<m.nx
 limp:m.lim<=p
 fr:Fr m.nx p m M
section
variable {p:Nat}{m M M':Mem}
theorem At.ok (h:At p m M):M.Ok:=h.fr.ok
theorem At.CK (h:At p m M):p<M.nx:=Xb h.lt h.fr.nx
theorem At.lim (h:At p m M):M.lim<=p:=by rw [h.fr.lim];exact h.limp
theorem At.iF (h:At p m M):M.lim<=M.nx:=Xl h.lim (afz h.CK)
theorem At.start (hm:m.Ok)(hp:p<m.nx)(hl:m.lim<=p):At p m m:=⟨hp,hl,Fr.refl hm⟩
theorem At.nx (h:At p m M)(e:Ext M M'):At p m M':=⟨h.lt,h.limp,h.fr.trans (e.fr h.fr.nx)⟩
theorem At.set (h:At p m M)(b:O9):At p m (M.set p b):=
 ⟨h.lt,h.limp,h.fr.trans ⟨Mem.Ok.set h.ok h.CK _,by simp,by simp,λi hi hp=>p8 h.ok _ h.CK hp⟩⟩
theorem At.ext {m0:Mem}(h:At p m M)(e:Ext m0 m)(hp:m0.nx<=p):Ext m0 M:=⟨h.ok,Xl e.nx h.fr.nx,h.fr.lim.trans e.lim,λi hi=>(h.fr.old i (Xb hi e.nx) (by omega)).trans (e.old i hi)⟩
end
theorem PE (a b:Nat):((max a b:Nat):Int)=max (a:Int) b:=by omega
theorem CQ {x y:OF}{ls:List j3}{env:T j3}{a b:Int}(hx:x ls env=.int .i64 a)(hy:y ls env=.int .i64 b):WM true x [y] ls env=some (iV (max a b)):=by show ob (mm2 true (x ls env) (y ls env)) some=_;rw [hx,hy];show some (j3.int .i64 (bi (jF a b) b a))=_;rw [fG];by_cases h:a<b;rw [decide_eq_true h,P7,Int.max_def,if_pos (by omega)];rw [decide_eq_false h,S9,Int.max_def];split<;>first | rfl | (congr 2;omega)
theorem YS {m:Mem}{p:Nat}{v:j3}{a0 b0:Int}{cf:F4}{fu:Nat}(l:List (Nat×Nat))(hs:Small l)(hv:∀M,At p m M->V7 M 2 v (iJ l))(hn:jV v (some (j3.int .i64 0)) (λ_ _ n _=>some (iV n)) (λ_ _ n _=>some (iV n))=some (.int .i64 l.length)):
  ∀(j i:Nat),i+j=l.length->∀(s:Nat×Nat) (c x:j3) (M:Mem) (N:Nat),At p m M->M.get p=some (j4 (C9 s))->s.1<=20000000000000*(i+1)->s.2<=1000000->j+1<=N->
  ∃c' x' M',I4 (λenv m k=>Nr cf fu none env m k) N (KM (.agg [iV a0,iV b0]) v (iV (i:Int)) (iV (l.length:Int)) c v (.ptr p 0) x (.ptr (p+1) 0)) M []=some [⟨.exit 0,(KM (.agg [iV a0,iV b0]) v (iV (l.length:Int)) (iV (l.length:Int)) c' v (.ptr p 0) x' (.ptr (p+1) 0)),M',[],none⟩]∧At p m M'∧M'.get p=some (j4 (C9 (gF s (l.drop i)))):=by
 have hlen:=hn;have hl1:=hs.1;intro j;induction j with
 | zero=>
  intro i hi s c x M N hA hg hs1 hs2 hN;obtain⟨N,rfl⟩:∃k,N=k+1:=⟨N-1,by omega⟩;obtain rfl:i=l.length:=by omega
  refine⟨.bool false,x,M,?_,hA,?_⟩;rw [w9];simp [Nr];rw [afA];exact hg
 | succ j ih=>
  intro i hi s c x M N hA hg hs1 hs2 hN;obtain⟨N,rfl⟩:∃k,N=k+1:=⟨N-1,by omega⟩;have hlt:i<l.length:=by omega
  have hlt':i<(iJ l).length:=by rw [yg];exact hlt
  have hm:=hA.ok;have hl:=hA.iF;have hp:=hA.CK;have hl2:=hA.lim;obtain⟨id1,o1,a1,a2,a3,a4,a5⟩:=(hv M hA).at hlt';have hrow:(iJ l)[i]=C9 l[i]:=by simp [iJ]
  have a4':=a4 0 2 (by omega) (by omega);rw [hrow] at a4';have hx:=hs.2 l[i] (abX hlt);have hd:l.drop i=l[i]::l.drop (i+1):=Y6 hlt;generalize hX:l[i]=X at *;obtain⟨x1,x2⟩:=X;obtain⟨s1,s2⟩:=s;simp only [aay,C9,Y3,ae2,afI] at a4' hg hx hs1 hs2;have so:=λ(β:Type) (l:List O9) (off:Nat) (vs:List j3) (k:Mem->Option β)=>zK (β:=β) hm hp hl2 l off vs k;have go:=λ(l:List O9)=>U8 hm l hp;have hA':=(hA.nx (y9 hm [j4 [iV (x1:Int),iV (x2:Int)]])).set (j4 (C9 (comb (s1,s2) (x1,x2))));obtain⟨c',x',M',gg,g1,g2⟩:=ih (i+1) (by omega) (comb (s1,s2) (x1,x2)) (.bool true) (.ptr M.nx 0) _ N hA' (y8 (hA.nx (y9 hm _)).ok _ (hA.nx (y9 hm _)).CK rfl) (by simp [comb];omega) (by simp [comb];omega) (by omega);have q:=λx y ls env a b hx hy=>CQ (x:=x) (y:=y) (ls:=ls) (env:=env) (a:=a) (b:=b) hx hy;have w1:iU ((s1:Int)+(x1:Int))=((s1+x1:Nat):Int):=by rw [L8 (by omega) (by omega)];rfl
  refine⟨c',x',M',?_,g1,?_⟩;rw [w9,← gg];simp [Nr,p9,u7,z8 hm,G7 hm,O4 hm hl,H6 hm hl,K3 hm,H7 hm,so,go,hg,a1,a4',hlt,C9,comb,Y9 (i:=i) (by omega),q,w1,PE];rw [hd];exact g2
theorem Kz {m:Mem}(hm:m.Ok)(hl:m.lim<=m.nx){v:j3}(s:Nat×Nat)(l:List (Nat×Nat))(hs:Small l)(hv:V7 m 2 v (iJ l))(h1:s.1<=20000000000000)(h2:s.2<=1000000)(n fu:Nat)(hfu:l.length+1<=fu):
  ∃m',o9 KW fu (n+1) (.func 75) [.agg (C9 s),v] m=some [⟨.agg (C9 (gF s l)),m'⟩]∧Ext m m':=by
 have hn:=hv.len;rw [yg] at hn;have E:=y9 hm [j4 (C9 s),j4 [iV 0,iV 0]];have hA:At m.nx (ext m [j4 (C9 s),j4 [iV 0,iV 0]]) _:=At.start E.ok (by simp) (by rw [E.lim];exact hl);obtain⟨c',x',M',g,hA',g1⟩:=YS (cf:=o9 KW fu n) (fu:=fu) (a0:=(s.1:Int)) (b0:=(s.2:Int)) l hs (λM h=>hv.ext (h.ext E (J2 _))) hn l.length 0 (by omega) s .undef .undef (_) fu hA (by rw [z8 hm];rfl) (by omega) h2 hfu;have g':I4 (λenv m k=>Nr (o9 KW fu n) fu none env m k) fu (KM (.agg [iV (s.1:Int),iV (s.2:Int)]) v (iV 0) (iV (l.length:Int)) .undef v (.ptr m.nx 0) .undef (.ptr (m.nx+1) 0)) (ext m [j4 (C9 s),j4 [iV 0,iV 0]]) []=_:=g;have hg2:M'.get (m.nx+1)=some (j4 [iV 0,iV 0]):=by rw [hA'.fr.old _ (by simp) (by omega),G7 hm];rfl
 have hlt:m.nx+1<M'.nx:=Xb (by simp) hA'.fr.nx;have hl':M'.lim<=m.nx+1:=by have:=hA'.lim;omega
 have st:=sB hl';have gs:∀B,(M'.set (m.nx+1) B).get (m.nx+1)=some B:=λB=>y8 hA'.ok _ hlt rfl;have EM:=hA'.ext E (J2 _);refine⟨M'.set (m.nx+1) (j4 (C9 (gF s l))),?_,?_⟩;rw [Y3] at g1;rw [enter (sf:=f75) rfl rfl];generalize gF s l=r at *;obtain⟨r1,r2⟩:=r;obtain⟨s1,s2⟩:=s;simp only [C9] at *;simp [f75,p9,u7,z8 hm,G7 hm,O4 hm hl,H6 hm hl,K3 hm,H7 hm,K5,hn,g',g1,hg2,st,gs];exact EM.set hlt (by omega) _
theorem bs2 (z:List j3)(ps:List (Nat×Nat×OF))(ls:List j3)(env:T j3)(nid:Nat)(h:z.length=2):F8 2 1 z ps ls env nid=ob (lay ps ls env z) λcells=>if cells.length=2 then some (.slice nid 0 1 1,some (j4 cells)) else none:=gX 2 z ps ls env nid h
theorem pX.ext {m m':Mem}{S:Nat->Prop}{a:List Ex}{v:j3}(h:pX m S a v)(e:Ext m m'):pX m' S a v:=by obtain⟨rows,h1,h2⟩:=h;exact⟨rows,h1.mono e.nx (λi hi _=>e.old i hi) λ_ _ h=>h,H8.mono e.nx (λi hi _=>e.old i hi) (λ_ _ h=>h) a rows h2⟩
theorem QU:∀(l:List (Nat×Nat)) (x:Nat×Nat),x∈l->x.1<=(l.map (·.1)).sum
 | y::l,x,h=>by simp only [aaZ,List.sum_cons];rcases Z7.1 h with rfl | h;omega;have:=QU l x h;omega
theorem fJ:∀l:List Ex,l.length<=aR l
 | []=>by simp
 | e::l=>by have:=fJ l;have:1<=sQ e:=by {cases e;simp [sQ]};simp [aR];omega
theorem vF:∀(l:List Ex) (i:Nat) (h:i<l.length),sQ l[i]<=aR l
 | e::l,0,h=>by simp [aR]
 | e::l,i+1,h=>by have:=vF l i (by simpa using h);simp [aR];omega
theorem NC (d:Nat)(a:List Ex)(hd:d<=100)(h:aR a<=10000):Small (zI d a):=by
 have w:=vE a d;refine⟨by have:=w.len;have:=fJ a;omega,λx hx=>⟨?_,?_⟩⟩;have:=QU _ x hx;have:=w.le;omega
 have:=w.lv x hx;omega
def C76 (K:Known)(n fu d:Nat):Prop:=∀(m:Mem) (v:j3) (a:List Ex),m.Ok->m.lim<=m.nx->pX m (λ_=>True) a v->aR a<=10000->
 ∃out m',o9 K fu n (.func 76) [v,iV (d:Int)] m=some [⟨out,m'⟩]∧Ext m m'∧aM m.nx 2 m' out (iJ (zI d a))
theorem YT {n fu d:Nat}(hd:d<=100)(hfu:20000<=fu)(h76:C76 KW (n+1) fu d){m:Mem}(hm:m.Ok)(hl:m.lim<=m.nx){row:List j3}{e:Ex}(h:Q6 m (λ_=>True) e row)(hp:sQ e<=10000):
  ∃m',o9 KW fu (n+2) (.func 115) [.agg row,iV (d:Int)] m=some [⟨.agg (C9 (bE d e)),m'⟩]∧Ext m m':=by
 obtain⟨k,n0,s0,a⟩:=e;obtain⟨v,rows,rfl,h2,h3⟩:=h;rw [sQ] at hp;have hc:=h2.slice.K5;have hcc:=h2.slice.cells;have E:=y9 hm [j4 (r4 k n0 s0 v),j4 [iV 0,iV 0]];obtain⟨out,m1,g1,E1,O1⟩:=h76 (ext m [j4 (r4 k n0 s0 v),j4 [iV 0,iV 0]]) v a E.ok (by rw [E.lim];exact Xl hl E.nx) (pX.ext ⟨rows,h2,h3⟩ E) (by omega);have sm:=NC d a hd (by omega);obtain⟨m2,g2,E2⟩:=Kz E1.ok (by rw [E1.lim,E.lim];exact Xl hl (Xl E.nx E1.nx)) (1,1) (zI d a) sm O1.slice (by simp) (by simp) n fu (by have:=sm.1;have:=(vE a d).len;have:=fJ a;omega);have g2':o9 KW fu (n+1) (.func 75) [.agg [iV 1,iV 1],out] m1=_:=g2;have hlt:m.nx+1<m2.nx:=Xb (by simp) (Xl E1.nx E2.nx);have hl':m2.lim<=m.nx+1:=by rw [E2.lim,E1.lim,E.lim];omega
 have st:=sB hl';have hg:m2.get (m.nx+1)=some (j4 [iV 0,iV 0]):=by rw [E2.old _ (Xb (by simp) E1.nx),E1.old _ (by simp),G7 hm];rfl
 have gs:∀B,(m2.set (m.nx+1) B).get (m.nx+1)=some B:=λB=>y8 E2.ok _ hlt rfl;have po:=Ch O1.slice;refine⟨m2.set (m.nx+1) (j4 (C9 (bE d (.mk k n0 s0 a)))),?_,(E.trans (E1.trans E2)).set hlt (by omega) _⟩;rw [enter (sf:=f115) rfl rfl];rw [bE];generalize gF (1,1) (zI d a)=r at *;obtain⟨r1,r2⟩:=r;simp only [C9] at *;simp [f115,p9,u7,z8 hm,G7 hm,O4 hm hl,H6 hm hl,K3 hm,H7 hm,K5,hc,hcc,g1,g2',st,hg,gs,po]
theorem YU {n fu d:Nat}(hd:d<=100)(hfu:20000<=fu)(h76:C76 KW (n+1) fu d){m:Mem}(hm:m.Ok)(hl:m.lim<=m.nx){v:j3}{rows:List (List j3)}(a:List Ex)(h1:pW m (λ_=>True) 4 v rows)(h2:H8 m (λ_=>True) a rows)(hp:aR a<=10000):
  ∀(j i:Nat),i+j=a.length->∀(acc:List (Nat×Nat)) (c3 c6 out x8 x9:j3) (M:Mem) (N:Nat),Ext m M->aM m.nx 2 M out (iJ acc)->acc.length<=i->j+1<=N->
  ∃c3' c6' out' x8' x9' M',I4 (λenv m k=>Fa (o9 KW fu (n+2)) fu none env m k) N (xW v (iV (i:Int)) (iV (a.length:Int)) c3 v (.int .i64 ((d:Int)+1)) c6 out x8 x9 nS) M []=some [⟨.exit 0,(xW v (iV (a.length:Int)) (iV (a.length:Int)) c3' v (.int .i64 ((d:Int)+1)) c6' out' x8' x9' nS),M',[],none⟩]∧
   Ext m M'∧aM m.nx 2 M' out' (iJ (acc++zI (d+1) (a.drop i))):=by
 have hlen0:=H8.len h2;have hlen:=h1.slice.len;rw [hlen0] at hlen;have hal:=fJ a;intro j;induction j with
 | zero=>
  intro i hi acc c3 c6 out x8 x9 M N E O hac hN;obtain⟨N,rfl⟩:∃k,N=k+1:=⟨N-1,by omega⟩;obtain rfl:i=a.length:=by omega
  refine⟨.bool false,c6,out,x8,x9,M,?_,E,?_⟩;rw [w9];simp [Fa];rw [afA,zI,aiw];exact O
 | succ j ih=>
  intro i hi acc c3 c6 out x8 x9 M N E O hac hN;obtain⟨N,rfl⟩:∃k,N=k+1:=⟨N-1,by omega⟩;have hlt:i<a.length:=by omega
  have hlt':i<rows.length:=by omega
  have hM:=E.ok;have hLM:M.lim<=M.nx:=by rw [E.lim];exact Xl hl E.nx
  obtain⟨id1,o1,a1,a2,a3,a4,a5⟩:=(h1.slice.ext E).at hlt';have hrow:=H8.get h2 i hlt hlt';have hr4:=hrow.row;have a4':=a4 0 4 (by omega) (by omega);rw [Y3,aar (by omega),aay] at a4';have hd1:a.drop i=a[i]::a.drop (i+1):=Y6 hlt;have hpi:=vF a i hlt;have hrowM:Q6 M (λ_=>True) a[i] rows[i]:=Q6.mono E.nx (λi hi _=>E.old i hi) (λ_ _ h=>h) _ _ hrow;generalize hX:a[i]=X at *;generalize hR:rows[i]=R at *;have E1:=y9 hM [j4 R];obtain⟨m2,g2,E2⟩:=YT hd hfu h76 E1.ok (by rw [E1.lim];exact Xl hLM E1.nx) (e:=X) (row:=R) (Q6.mono E1.nx (λi hi _=>E1.old i hi) (λ_ _ h=>h) _ _ hrowM) (by omega);have hs:(bE d X).1<=sQ X∧(bE d X).2<=21+d:=⟨(VT X d).2.2.1,(VT X d).2.2.2⟩;generalize hb:bE d X=b at *;obtain⟨b1,b2⟩:=b;simp only at hs;have hm2:=E2.ok;have hl2:m2.lim<=m2.nx:=by rw [E2.lim,E1.lim];exact Xl hLM (Xl E1.nx E2.nx)
  have E3:=y9 hm2 [j4 (C9 (b1,b2)),j4 (C9 (b1,b2+1))];have hx:V7 (ext m2 [j4 (C9 (b1,b2)),j4 (C9 (b1,b2+1))]) 2 (.slice (m2.nx+1) 0 1 1) [C9 (b1,b2+1)]:=by have:=oz (oo hm2 [j4 (C9 (b1,b2))]) (C9 (b1,b2+1)) (by simp [C9]);exact this
  have O3:=((O.ext E1).ext E2).ext E3;have Eall:=E.trans (E1.trans (E2.trans E3));obtain⟨v5,M5,gb,ho5,F5,old5⟩:=Kh (lo:=m.nx) (rs:=2) (bytes:=16) (r:=C9 (b1,b2+1)) E3.ok (by rw [Eall.lim];exact hl) Eall.nx (by omega) O3 hx (by simp [C9]) (by simp [C9,K5]) (by rw [yg];omega) ⟨by omega,by omega⟩;have po:=Ch ho5.slice;have hsnoc:iJ acc ++ [C9 (b1,b2+1)]=iJ (acc ++ [(b1,b2+1)]):=by simp [iJ]
  rw [hsnoc] at ho5;have EM5:Ext m M5:=⟨F5.ok,Xl Eall.nx F5.nx,F5.lim.trans Eall.lim,λi hi=>(F5.old i hi (by omega)).trans (Eall.old i hi)⟩;obtain⟨c3',c6',out',x8',x9',M',gg,q1,q2⟩:=ih (i+1) (by omega) (acc ++ [(b1,b2+1)]) (.bool true) (.bool false) v5 (.ptr M.nx 0) (.ptr m2.nx 0) M5 N EM5 ho5 (by simp;omega) (by omega);refine⟨c3',c6',out',x8',x9',M',?_,q1,?_⟩;obtain⟨x1,x2,x3,x4,x5,x6⟩:=bG hM hLM;obtain⟨y1,y2,y3,y4,y5,y6⟩:=bG hm2 hl2;have gR:m2.get M.nx=some (j4 R):=by rw [E2.old _ (by simp),z8 hM];rfl
  have w2:iU ((b2:Int)+1)=(b2:Int)+1:=L8 (by omega) (by omega);have w3:iU (d:Int)=(d:Int):=L8 (by omega) (by omega);have ed:decide ((d:Int)+1<=0)=false:=decide_eq_false (by omega);obtain⟨hr41,hr42⟩:=hr4;have st4:FD (some (j4 (r4 0 0 [] nS))) 0 R=some (j4 R):=by rw [jT (by simp [hr41]) (by simp)];simp [hr41]
  have ld4:Hy (some (j4 R)) 0 4=some (.agg R):=by rw [jS (by omega) (by omega),Y3,aar (by omega)]
  simp only [C9,show ((b2+1:Nat):Int)=(b2:Int)+1 from rfl] at gb g2 gg ⊢;rw [w9,← gg];simp [Fa,p9,u7,x1,x2,x3,x4,x5,x6,y1,y2,y3,y4,y5,y6,K5,a1,a4',hlt,hr41,hr42,st4,ld4,g2,gR,w2,w3,ed,gb,po,bs2,Y9 (i:=i) (by omega)];rw [hd1,zI,hb];simpa using q2
theorem acs (n fu:Nat)(hfu:20000<=fu):∀d:Nat,d<=100->C76 KW (n+2*d+1) fu d:=by
 intro d;induction d with
 | zero=>
  intro hd m v a hm hl h hp;obtain⟨rows,h1,h2⟩:=h;have hlen0:=H8.len h2;have hlen:=h1.slice.len;rw [hlen0] at hlen;match a,h2 with
  | [],h2=>refine⟨nS,m,?_,Ext.refl hm,aM.nil _ _ _⟩;obtain⟨fu,rfl⟩:∃k,fu=k+1:=⟨fu-1,by omega⟩;rw [enter (sf:=f76) rfl rfl];simp [f76,Fa,w9,p9,u7,z8 hm,G7 hm,O4 hm hl,H6 hm hl,K3 hm,H7 hm,K5,hlen]
  | e::a,h2=>
   obtain⟨id1,o1,a1,a2,a3,a4,a5⟩:=h1.slice.at (i:=0) (by rw [hlen0];simp);have hrow:=H8.get h2 0 (by simp) (by rw [hlen0];simp);have hr4:=hrow.row;have a4':=a4 0 4 (by omega) (by omega);rw [Y3,aar (by omega),aay] at a4';generalize hR:rows[0]'(by rw [hlen0];simp)=R at *;have E3:=y9 hm [j4 R,j4 (C9 (0,21))];have hx:V7 (ext m [j4 R,j4 (C9 (0,21))]) 2 (.slice (m.nx+1) 0 1 1) [C9 (0,21)]:=by have:=oz (oo hm [j4 R]) (C9 (0,21)) (by simp [C9]);exact this
   obtain⟨v5,M5,gb,ho5,F5,old5⟩:=Kh (lo:=m.nx) (rs:=2) (bytes:=16) (r:=C9 (0,21)) E3.ok (by rw [E3.lim];exact hl) E3.nx (by omega) (aM.nil _ _ _) hx (by simp [C9]) (by simp [C9,K5]) (by simp) ⟨by omega,by omega⟩;have po:=Ch ho5.slice;refine⟨v5,M5,?_,⟨F5.ok,Xl E3.nx F5.nx,F5.lim.trans E3.lim,λi hi=>(F5.old i hi (by omega)).trans (E3.old i hi)⟩,by simpa [zI,iJ] using ho5⟩;obtain⟨hr41,hr42⟩:=hr4;have st4:FD (some (j4 (r4 0 0 [] nS))) 0 R=some (j4 R):=by rw [jT (by simp [hr41]) (by simp)];simp [hr41]
   obtain⟨fu,rfl⟩:∃k,fu=k+1:=⟨fu-1,by omega⟩;have hlt:(0:Int)<((a.length:Int)+1):=by omega
   rw [enter (sf:=f76) rfl rfl];simp only [C9,show ((0:Nat):Int)=0 from rfl,show ((21:Nat):Int)=21 from rfl] at gb ⊢;have a1':jV v none (λid off len _=>if 0<len then some (j3.ptr id off) else none) (λid off len _=>if 0<len then some (j3.ptr id off) else none)=some (.ptr id1 o1):=by simpa using a1
   simp [f76,Fa,w9,p9,u7,z8 hm,G7 hm,O4 hm hl,H6 hm hl,K3 hm,H7 hm,K5,hlen,hlt,a1',a4',hr41,hr42,st4,gb,po,bs2]
 | succ d ih=>intro hd m v a hm hl h hp;obtain⟨rows,h1,h2⟩:=h;have hlen0:=H8.len h2;have hlen:=h1.slice.len;rw [hlen0] at hlen;have hal:=fJ a;obtain⟨c3',c6',out',x8',x9',M',g,q1,q2⟩:=YU (n:=n+2*d) (fu:=fu) (d:=d) (by omega) hfu (ih (by omega)) hm hl a h1 h2 hp a.length 0 (by omega) [] .undef .undef nS .undef .undef m fu (Ext.refl hm) (aM.nil _ _ _) (by simp) (by omega);have g':I4 (λenv m k=>Fa (o9 KW fu (n+2*d+2)) fu none env m k) fu (xW v (iV 0) (iV (a.length:Int)) .undef v (.int .i64 ((d:Int)+1)) .undef nS .undef .undef nS) m []=_:=g;refine⟨out',M',?_,q1,by simpa using q2⟩;have po:=Ch q2.slice;rw [show n+2*(d+1)+1=(n+2*d+2)+1 from by omega,enter (sf:=f76) rfl rfl];simp [f76,p9,u7,z8 hm,G7 hm,O4 hm hl,H6 hm hl,K3 hm,H7 hm,K5,hlen,g',po]
theorem acu (n fu d:Nat)(hfu:20000<=fu)(hd:d<=100)(hn:2*d+1<=n):C76 KW n fu d:=by
 have:=acs (n-(2*d+1)) fu hfu d hd
 rwa [show n-(2*d+1)+2*d+1=n from by omega] at this
theorem dS.ext {m m':Mem}{S:Nat->Prop}{a:List dO}{v:j3}(h:dS m S a v)(e:Ext m m'):dS m' S a v:=by obtain⟨rows,h1,h2⟩:=h;exact⟨rows,h1.mono e.nx (λi hi _=>e.old i hi) λ_ _ h=>h,G8.mono e.nx (λi hi _=>e.old i hi) (λ_ _ h=>h) a rows h2⟩
theorem oI:∀l:List dO,l.length<=aN l
 | []=>by simp
 | e::l=>by have:=oI l;have:1<=stP e:=by {cases e;simp [stP];omega};simp [aN];omega
theorem zL:∀(l:List dO) (i:Nat) (h:i<l.length),stP l[i]<=aN l
 | e::l,0,h=>by simp [aN]
 | e::l,i+1,h=>by have:=zL l i (by simpa using h);simp [aN];omega
theorem VX (l:List dO)(d:Nat):(bS d l).1<=aN l∧(bS d l).2<=21+d:=⟨(IL l d).2.2.1,(IL l d).2.2.2⟩
theorem YV {x i:OF}{ls:List j3}{env:T j3}{a b:j3}(hx:x ls env=.agg [a,b])(hi:i ls env=.int .i64 0):CZ 1 2 x i ls env=some a:=by show tF (x ls env) (λcs=>idx 2 (i ls env) λk=>mK (Nat.mul k 1) cs)=_;rw [hx,hi];rfl
theorem YW {x i:OF}{ls:List j3}{env:T j3}{a b:j3}(hx:x ls env=.agg [a,b])(hi:i ls env=.int .i64 1):CZ 1 2 x i ls env=some b:=by show tF (x ls env) (λcs=>idx 2 (i ls env) λk=>mK (Nat.mul k 1) cs)=_;rw [hx,hi];rfl
theorem PG (a b c:Nat×Nat):comb (comb a b) c=comb a (comb b c):=by simp only [comb,ain];omega
def C35 (K:Known)(n fu d:Nat):Prop:=∀(m:Mem) (v:j3) (l:List dO),m.Ok->m.lim<=m.nx->dS m (λ_=>True) l v->aN l<=10000->
 ∃m',o9 K fu n (.func 35) [v,iV (d:Int)] m=some [⟨.agg (C9 (bS d l)),m'⟩]∧Ext m m'
theorem Fj {n fu d:Nat}(hd:d<=100)(hfu:20000<=fu)(h35:C35 KW (n+1) fu d){M:Mem}(hM:M.Ok){q:Nat}(hq:q<M.nx)(hlq:M.lim<=q){s:Nat×Nat}(hg:M.get q=some (j4 (C9 s)))(hs1:s.1<=100000)(hs2:s.2<=1000)
  {vt vf vb:j3} {i:Nat} {b:List dO} (hi:i<2) (hb:[vt,vf][i]?=some vb) (hsb:dS M (λ_=>True) b vb) (hp:aN b<=10000) (e0 e1 e2 e3 e4 e6 e7 e8 c10 x12 x14 e15:j3) (N:Nat):
  ∃x14' M',I4 (λenv m k=>EY (o9 KW fu (n+1)) fu none env m k) (N+1) (vC e0 e1 e2 e3 e4 (.int .i64 ((d:Int)+1)) e6 e7 e8 (iV (i:Int)) c10 (.agg [vt,vf]) x12 (.ptr q 0) x14 e15) M []=I4 (λenv m k=>EY (o9 KW fu (n+1)) fu none env m k) N (vC e0 e1 e2 e3 e4 (.int .i64 ((d:Int)+1)) e6 e7 e8 (.int .i64 ((i+1:Nat):Int)) (.bool true) (.agg [vt,vf]) vb (.ptr q 0) x14' e15) M' []∧
   At q M M'∧M'.get q=some (j4 (C9 (comb s ((bS d b).1,(bS d b).2+1)))):=by
 obtain⟨m1,g1,E1⟩:=h35 M vb b hM (by omega) hsb hp;obtain⟨hb1,hb2⟩:=VX b d;generalize hB:bS d b=B at *;obtain⟨b1,b2⟩:=B;obtain⟨s1,s2⟩:=s;simp only at hb1 hb2 hs1 hs2;have hm1:=E1.ok;have hl1:m1.lim<=m1.nx:=by rw [E1.lim];have:=E1.nx;omega
 have E2:=y9 hm1 [j4 (C9 (b1,b2)),j4 (C9 (b1,b2+1))];have hx:V7 (ext m1 [j4 (C9 (b1,b2)),j4 (C9 (b1,b2+1))]) 2 (.slice (m1.nx+1) 0 1 1) (iJ [(b1,b2+1)]):=by have:=oz (oo hm1 [j4 (C9 (b1,b2))]) (C9 (b1,b2+1)) (by simp [C9]);exact this
 obtain⟨m3,g3,E3⟩:=Kz E2.ok (by rw [E2.lim];exact Xl hl1 E2.nx) (s1,s2) [(b1,b2+1)] ⟨by simp,by simp;omega⟩ hx (by simp only;omega) (by simp only;omega) n fu (by simp;omega);have Eall:=E1.trans (E2.trans E3);have hlt:q<m3.nx:=Xb hq Eall.nx;have hl':m3.lim<=q:=by rw [Eall.lim];exact hlq
 have st:=sB hl';have hg3:m3.get q=some (j4 (C9 (s1,s2))):=(Eall.old q hq).trans hg;have hgx:(ext m1 [j4 (C9 (b1,b2))]).get q=some (j4 (C9 (s1,s2))):=by rw [U8 hm1 _ (Xb hq E1.nx),E1.old q hq,hg]
 refine⟨.ptr m1.nx 0,m3.set q (j4 (C9 (comb (s1,s2) (b1,b2+1)))),?_,((At.start hM hq hlq).nx Eall).set _,y8 Eall.ok _ hlt rfl⟩;obtain⟨y1,y2,y3,y4,y5,y6⟩:=bG hm1 hl1;have w2:iU ((b2:Int)+1)=(b2:Int)+1:=L8 (by omega) (by omega);have w3:iU (d:Int)=(d:Int):=L8 (by omega) (by omega);have hpo:∀(β:Type) (p:j3->β) (q:β),dx vb p q=q:=λβ p q=>by obtain⟨rows,h,_⟩:=hsb;exact h.slice.mZ p q
 have q0:=λx i ls env hx hi=>YV (x:=x) (i:=i) (ls:=ls) (env:=env) (a:=vt) (b:=vf) hx hi;have q1:=λx i ls env hx hi=>YW (x:=x) (i:=i) (ls:=ls) (env:=env) (a:=vt) (b:=vf) hx hi;rcases i with _ | _ | i
 rotate_left 2
 omega;all_goals
  obtain rfl:=Y7 hb;simp only [C9,gF,List.foldl,comb,show ((b2+1:Nat):Int)=(b2:Int)+1 from rfl] at g1 g3 hg3 hgx ⊢;rw [w9];simp [EY,p9,u7,y1,y2,y3,y4,y5,y6,K5,bs2,g1,g3,hg3,hgx,st,w2,w3,hpo,q0,q1,PE,show iU 1=1 from L8 (by decide) (by decide),show iU (1+1)=2 from L8 (by decide) (by decide),show iU 2=2 from L8 (by decide) (by decide)]
theorem Tn {n fu d:Nat}(hd:d<=100)(hfu:20000<=fu)(h35:C35 KW (n+1) fu d){M:Mem}(hM:M.Ok){q:Nat}(hq:q<M.nx)(hlq:M.lim<=q){s:Nat×Nat}(hg:M.get q=some (j4 (C9 s)))(hs1:s.1<=20000)(hs2:s.2<=500)
  {vt vf:j3} {t f:List dO} (ht:dS M (λi=>i≠q) t vt) (hf:dS M (λi=>i≠q) f vf) (hpt:aN t<=10000) (hpf:aN f<=10000) (e0 e1 e2 e3 e4 e6 e7 e8 c10 x12 x14 e15:j3) (N:Nat):
  ∃x12' x14' M',I4 (λenv m k=>EY (o9 KW fu (n+1)) fu none env m k) (N+3) (vC e0 e1 e2 e3 e4 (.int .i64 ((d:Int)+1)) e6 e7 e8 (iV 0) c10 (.agg [vt,vf]) x12 (.ptr q 0) x14 e15) M []=some [⟨.exit 2,(vC e0 e1 e2 e3 e4 (.int .i64 ((d:Int)+1)) e6 e7 e8 (iV 2) (.bool false) (.agg [vt,vf]) x12' (.ptr q 0) x14' e15),M',[],none⟩]∧
   At q M M'∧M'.get q=some (j4 (C9 (comb (comb s ((bS d t).1,(bS d t).2+1)) ((bS d f).1,(bS d f).2+1)))):=by
 have weak:∀(m:Mem) (l:List dO) (v:j3),dS m (λi=>i≠q) l v->dS m (λ_=>True) l v:=λm l v ⟨rows,h1,h2⟩=>⟨rows,h1.mono (J2 _) (λ_ _ _=>rfl) λ_ _ _=>trivial,G8.mono (J2 _) (λ_ _ _=>rfl) (λ_ _ _=>trivial) l rows h2⟩;obtain⟨x1,M1,g1,A1,G1⟩:=Fj (vt:=vt) (vf:=vf) (i:=0) hd hfu h35 hM hq hlq hg (by omega) (by omega) (by omega) rfl (weak _ _ _ ht) hpt e0 e1 e2 e3 e4 e6 e7 e8 c10 x12 x14 e15 (N+2);have hf1:dS M1 (λ_=>True) f vf:=by obtain⟨rows,h1,h2⟩:=hf;exact⟨rows,h1.mono A1.fr.nx (λi hi hn=>A1.fr.old i hi hn) λ_ _ _=>trivial,G8.mono A1.fr.nx (λi hi hn=>A1.fr.old i hi hn) (λ_ _ _=>trivial) f rows h2⟩
 have hb1:=VX t d;obtain⟨x2,M2,g2,A2,G2⟩:=Fj (vt:=vt) (vf:=vf) (i:=1) hd hfu h35 A1.ok A1.CK A1.lim G1 (by simp only [comb];omega) (by simp only [comb];omega) (by omega) rfl hf1 hpf e0 e1 e2 e3 e4 e6 e7 e8 (.bool true) vt x1 e15 (N+1);have g1':I4 (λenv m k=>EY (o9 KW fu (n+1)) fu none env m k) (N+3) (vC e0 e1 e2 e3 e4 (.int .i64 ((d:Int)+1)) e6 e7 e8 (iV 0) c10 (.agg [vt,vf]) x12 (.ptr q 0) x14 e15) M []=_:=g1;refine⟨vf,x2,M2,?_,⟨hq,hlq,A1.fr.trans (A2.fr.down A1.fr.nx)⟩,G2⟩;rw [g1',g2,w9];simp [EY]
theorem Tp {n fu d:Nat}(hd:d<=100)(hfu:20000<=fu)(h35:C35 KW (n+1) fu d)(h76:C76 KW (n+1) fu d){m:Mem}{p:Nat}(hm:m.Ok)(hp:p+1<m.nx)(hl:m.lim<=p){v:j3}{rows:List (List j3)}(l:List dO)(h1:pW m (λi=>i<p) 5 v rows)(h2:G8 m (λi=>i<p) l rows)(hps:aN l<=10000):
  ∀(j i:Nat),i+j=l.length->∀(s:Nat×Nat) (c3 c6 x8 x9 c10 x11 x12 x13 x14:j3) (M:Mem) (N:Nat),At (p+1) m M->M.get (p+1)=some (j4 (C9 s))->s.1<=10000*i->s.2<=1000->j+1<=N->
  ∃c3' c6' x8' x9' c10' x11' x12' x13' x14' M',I4 (λenv m k=>EZ (o9 KW fu (n+1)) fu none env m k) N (vC v (iV (i:Int)) (iV (l.length:Int)) c3 v (.int .i64 ((d:Int)+1)) c6 (.ptr p 0) x8 x9 c10 x11 x12 x13 x14 (.ptr (p+1) 0)) M [] =
   some [⟨.exit 0,(vC v (iV (l.length:Int)) (iV (l.length:Int)) c3' v (.int .i64 ((d:Int)+1)) c6' (.ptr p 0) x8' x9' c10' x11' x12' x13' x14' (.ptr (p+1) 0)),M',[],none⟩]∧At (p+1) m M'∧M'.get (p+1)=some (j4 (C9 (comb s (bS (d+1) (l.drop i))))):=by
 have hlen0:=G8.len h2;have hlen:=h1.slice.len;rw [hlen0] at hlen;have hll:=oI l;intro j;induction j with
 | zero=>
  intro i hi s c3 c6 x8 x9 c10 x11 x12 x13 x14 M N hA hg hs1 hs2 hN;obtain⟨N,rfl⟩:∃k,N=k+1:=⟨N-1,by omega⟩;obtain rfl:i=l.length:=by omega
  refine⟨.bool false,c6,x8,x9,c10,x11,x12,x13,x14,M,?_,hA,?_⟩;rw [w9];simp [EZ];rw [afA,bS,hg];simp [comb]
 | succ j ih=>
  intro i hi s c3 c6 x8 x9 c10 x11 x12 x13 x14 M N hA hg hs1 hs2 hN;obtain⟨N,rfl⟩:∃k,N=k+1:=⟨N-1,by omega⟩;have hlt:i<l.length:=by omega
  have hlt':i<rows.length:=by omega
  have hM:=hA.ok;have hLM:=hA.iF;have pr:∀i,i<m.nx->i<p->M.get i=m.get i:=λi hi hq=>hA.fr.old i hi (by omega);obtain⟨id1,o1,a1,a2,a3,a4,a5⟩:=(pW.mono h1 hA.fr.nx pr (S':=λi=>i<p) λ_ _ h=>h).slice.at hlt';have hrow:=G8.get h2 i hlt hlt';have hr4:=hrow.row;have a4':=a4 0 5 (by omega) (by omega);rw [Y3,aar (by omega),aay] at a4';have hd1:l.drop i=l[i]::l.drop (i+1):=Y6 hlt;have hpi:=zL l i hlt;have hrowM:iE M (λi=>i<p) l[i] rows[i]:=iE.mono hA.fr.nx pr (λ_ _ h=>h) _ _ hrow;generalize hX:l[i]=X at *;generalize hR:rows[i]=R at *;obtain⟨k0,s0,e,t,f⟩:=X;obtain⟨ve,vt,vf,re,rt,rf,rfl,he1,he2,ht1,ht2,hf1,hf2⟩:=hrowM;rw [stP] at hpi;have E1:=y9 hM [j4 (r5 k0 s0 ve vt vf)];have hA1:=hA.nx E1;obtain⟨out,m2,g2,E2,O2⟩:=h76 (ext M [j4 (r5 k0 s0 ve vt vf)]) ve e E1.ok hA1.iF
   ⟨re,he1.mono E1.nx (λi hi _=>E1.old i hi) λ_ _ _=>trivial,H8.mono E1.nx (λi hi _=>E1.old i hi) (λ_ _ _=>trivial) _ _ he2⟩ (by omega)
  have hA2:=hA1.nx E2;have sm:=NC d e hd (by omega);have hwl:=(vE e d).len;have hel:=fJ e;obtain⟨m3,g3,E3⟩:=Kz E2.ok hA2.iF (1,1) (zI d e) sm O2.slice (by simp) (by simp) n fu (by omega);have hA3:=hA2.nx E3;have hw1:(gF (1,1) (zI d e)).1<=1+aR e∧(gF (1,1) (zI d e)).2<=21+d:=⟨(zJ (vE e d)).2.2.1,(zJ (vE e d)).2.2.2⟩;generalize hW:gF (1,1) (zI d e)=W at *;have E4:=y9 E3.ok [j4 (C9 W)];have hA4:=hA3.nx E4;have E14:=E1.trans (E2.trans (E3.trans E4));have hn3:M.nx<=m3.nx:=Xl E1.nx (Xl E2.nx E3.nx);have hn3':M.nx<m3.nx:=Xb (by simp) (Xl E2.nx E3.nx);have tr:∀(l:List dO) (v:j3) (rows:List (List j3)),pW M (λi=>i<p) 5 v rows->G8 M (λi=>i<p) l rows->dS (ext m3 [j4 (C9 W)]) (λi=>i≠m3.nx) l v:=λl v rows x1 x2=>⟨rows,x1.mono E14.nx (λi hi _=>E14.old i hi) λi _ h=>by have:=hA.CK;omega,G8.mono E14.nx (λi hi _=>E14.old i hi) (λi _ h=>by have:=hA.CK;omega) _ _ x2⟩
  obtain⟨N2,hN2⟩:∃k,fu=k+3:=⟨fu-3,by omega⟩;obtain⟨x12',x14',m5,g5,hA5,G5⟩:=Tn hd hfu h35 E4.ok (q:=m3.nx) (by simp) (by rw [E4.lim];exact hA3.iF) (s:=W) (by rw [z8 E3.ok];rfl) (by omega) (by omega) (tr t vt rt ht1 ht2) (tr f vf rf hf1 hf2) (by omega) (by omega)
   v (iV (i:Int)) (iV (l.length:Int)) (.bool true) v (.bool false) (.ptr p 0) (.ptr M.nx 0) c10 x12 x14 (.ptr (p+1) 0) N2
  rw [← hN2] at g5;have hbt:=VX t d;have hbf:=VX f d;have hOwn:(YR (d+1) (.mk k0 s0 e t f))=comb (comb W ((bS d t).1,(bS d t).2+1)) ((bS d f).1,(bS d f).2+1):=by rw [YR,← hW];rfl
  have hO1:(comb (comb W ((bS d t).1,(bS d t).2+1)) ((bS d f).1,(bS d f).2+1)).1<=10000∧(comb (comb W ((bS d t).1,(bS d t).2+1)) ((bS d f).1,(bS d f).2+1)).2<=1000:=by simp only [comb];omega
  rw [← hOwn] at G5 hO1;generalize hB:YR (d+1) (.mk k0 s0 e t f)=B at *;have hM5:=hA5.ok;have hl5:m5.lim<=m5.nx:=hA5.iF;have hp5:m5.get (p+1)=some (j4 (C9 s)):=by have h0:p+1<M.nx:=hA.CK;rw [hA5.fr.old _ (by simp;omega) (by omega),U8 E3.ok _ (by omega),E3.old _ (by have:=E2.nx;simp at this;omega),E2.old _ (by simp;omega),U8 hM _ h0,hg]
  have E6:=y9 hM5 [j4 (C9 B)];have hx:V7 (ext m5 [j4 (C9 B)]) 2 (.slice m5.nx 0 1 1) (iJ [B]):=oz hM5 (C9 B) (by simp [C9]);obtain⟨m7,g7,E7⟩:=Kz E6.ok (by rw [E6.lim];exact Xl hl5 E6.nx) s [B] ⟨by simp,by simp;omega⟩ hx (by omega) (by omega) n fu (by simp;omega);have hA5':At (p+1) m m5:=⟨hA.lt,hA.limp,hA4.fr.trans ⟨hA5.ok,hA5.fr.nx,hA5.fr.lim,λi hi hn=>hA5.fr.old i (by have:=hA4.fr.nx;omega) (by have:=hA.fr.nx;omega)⟩⟩;have hA7:=(hA5'.nx E6).nx E7;have hA8:=hA7.set (j4 (C9 (comb s B)));obtain⟨c3',c6',x8',x9',c10',x11',x12'',x13',x14'',M',gg,q1,q2⟩:=ih (i+1) (by omega) (comb s B) (.bool true) (.bool false) (.ptr M.nx 0) (iV 2) (.bool false) (.agg [vt,vf]) x12' (.ptr m3.nx 0) x14' (m7.set (p+1) (j4 (C9 (comb s B)))) N hA8 (y8 hA7.ok _ hA7.CK rfl) (by simp only [comb];omega) (by simp only [comb];omega) (by omega);refine⟨c3',c6',x8',x9',c10',x11',x12'',x13',x14'',M',?_,q1,?_⟩;obtain⟨x1,x2,x3,x4,x5,x6⟩:=bG hM hLM;obtain⟨y1,y2,y3,y4,y5,y6⟩:=bG E3.ok hA3.iF;obtain⟨z1,z2,z3,z4,z5,z6⟩:=bG hM5 hl5;have hl7:m7.lim<=p+1:=hA7.lim;have st:=sB hl7;have hg7:m7.get (p+1)=some (j4 (C9 s)):=by rw [E7.old _ (by have:=hA5'.CK;simp;omega),U8 hM5 _ hA5'.CK,hp5]
  have gm3:m3.get M.nx=some (j4 (r5 k0 s0 ve vt vf)):=by rw [E3.old _ (Xb (by simp) E2.nx),E2.old _ (by simp),z8 hM];rfl
  have gmx:(ext m3 [j4 (C9 W)]).get M.nx=some (j4 (r5 k0 s0 ve vt vf)):=by rw [U8 E3.ok _ hn3',gm3]
  have w3:iU (d:Int)=(d:Int):=L8 (by omega) (by omega);have ed:decide ((d:Int)+1<=0)=false:=decide_eq_false (by omega);have ce:=he1.slice.cells;have ct:=ht1.slice.cells;have cf:=hf1.slice.cells;have oe:=he1.slice.K5;have ot:=ht1.slice.K5;have of:=hf1.slice.K5;have po:=Ch O2.slice;obtain⟨W1,W2⟩:=W;obtain⟨B1,B2⟩:=B;obtain⟨s1,s2⟩:=s;simp only [C9,gF,List.foldl,comb,aay] at *;have g3':o9 KW fu (n+1) (.func 75) [.agg [iV 1,iV 1],out] m2=_:=g3;rw [w9,← gg];simp [EZ,p9,u7,x1,x2,x3,x4,x5,x6,y1,y2,y3,y4,y5,y6,z1,z2,z3,z4,z5,z6,bs2,a1,a4',hlt,ce,ct,cf,oe,ot,of,g2,g3',g5,g7,G5,hp5,st,hg7,gm3,gmx,w3,ed,po,PE,Y9 (i:=i) (by omega)];rw [hd1,bS,hB,← PG];exact q2
theorem acv (fu:Nat)(hfu:20000<=fu):∀d n:Nat,d<=100->C35 KW (n+2*d+2) fu d:=by
 intro d;induction d with
 | zero=>
  intro n hd m v a hm hl h hp;obtain⟨rows,h1,h2⟩:=h;have hlen0:=G8.len h2;have hlen:=h1.slice.len;rw [hlen0] at hlen;obtain⟨fu,rfl⟩:∃k,fu=k+1:=⟨fu-1,by omega⟩;match a,h2 with
  | [],h2=>refine⟨ext m [j4 (C9 (0,0)),j4 (C9 (0,0))],?_,y9 hm _⟩;rw [enter (sf:=f35) rfl rfl];simp [f35,EZ,w9,p9,u7,z8 hm,G7 hm,O4 hm hl,H6 hm hl,K3 hm,H7 hm,K5,hlen,bS,C9]
  | e::a,h2=>
   obtain⟨id1,o1,a1,a2,a3,a4,a5⟩:=h1.slice.at (i:=0) (by rw [hlen0];simp);have hrow:=G8.get h2 0 (by simp) (by rw [hlen0];simp);have hr4:=hrow.row;have a4':=a4 0 5 (by omega) (by omega);rw [Y3,aar (by omega),aay] at a4';generalize hR:rows[0]'(by rw [hlen0];simp)=R at *;refine⟨ext m [j4 (C9 (0,21)),j4 (C9 (0,0)),j4 R],?_,y9 hm _⟩;obtain⟨hr41,hr42⟩:=hr4;have st4:FD (some (j4 (r5 0 [] nS nS nS))) 0 R=some (j4 R):=by rw [jT (by simp [hr41]) (by simp)];simp [hr41]
   have hlt:(0:Int)<((a.length:Int)+1):=by omega
   have g4:(ext m [j4 [iV 0,iV 0],j4 [iV 0,iV 0]]).get id1=m.get id1:=U8 hm _ a2;have a1':jV v none (λid off len _=>if 0<len then some (j3.ptr id off) else none) (λid off len _=>if 0<len then some (j3.ptr id off) else none)=some (.ptr id1 o1):=by simpa using a1
   rw [enter (sf:=f35) rfl rfl];simp [f35,EZ,w9,p9,u7,z8 hm,G7 hm,O4 hm hl,H6 hm hl,K3 hm,H7 hm,K5,hlen,hlt,a1',a4',hr41,hr42,st4,g4,bS,C9]
 | succ d ih=>
  intro n hd m v a hm hl h hp;obtain⟨rows,h1,h2⟩:=h;have hlen0:=G8.len h2;have hlen:=h1.slice.len;rw [hlen0] at hlen;have hal:=oI a;have E:=y9 hm [j4 (C9 (0,0)),j4 (C9 (0,0))];have hA:At (m.nx+1) (ext m [j4 (C9 (0,0)),j4 (C9 (0,0))]) _:=At.start E.ok (by simp) (by rw [E.lim];omega);have h1':pW (ext m [j4 (C9 (0,0)),j4 (C9 (0,0))]) (λi=>i<m.nx) 5 v rows:=by have:=pW.mono (m':=ext m [j4 (C9 (0,0)),j4 (C9 (0,0))]) h1 E.nx (λi hi _=>E.old i hi) (S':=λi=>i<m.nx) λ_ h _=>h;exact this
  have h2':G8 (ext m [j4 (C9 (0,0)),j4 (C9 (0,0))]) (λi=>i<m.nx) a rows:=G8.mono E.nx (λi hi _=>E.old i hi) (λ_ h _=>h) _ _ h2;obtain⟨c3',c6',x8',x9',c10',x11',x12'',x13',x14'',M',g,q1,q2⟩:=Tp (d:=d) (n:=n+2*d+2) (p:=m.nx) (by omega) hfu (by have:=ih (n+1) (by omega);rwa [show n+1+2*d+2=n+2*d+2+1 from by omega] at this) (acu _ _ _ hfu (by omega) (by omega)) E.ok (by simp) (by rw [E.lim];exact hl) a h1' h2' hp a.length 0 (by omega) (0,0) .undef .undef .undef .undef .undef .undef .undef .undef .undef (_) fu hA (by rw [G7 hm];rfl) (by simp) (by simp) (by omega);have g':I4 (λenv m k=>EZ (o9 KW fu (n+2*d+3)) fu none env m k) fu (vC v (iV 0) (iV (a.length:Int)) .undef v (.int .i64 ((d:Int)+1)) .undef (.ptr m.nx 0) .undef .undef .undef .undef .undef .undef .undef (.ptr (m.nx+1) 0)) (ext m [j4 [iV 0,iV 0],j4 [iV 0,iV 0]]) []=_:=g;rw [Y3,show comb (0,0) (bS (d+1) a)=bS (d+1) a from by simp [comb]] at q2;have hg2:M'.get m.nx=some (j4 [iV 0,iV 0]):=by rw [q1.fr.old _ (by simp) (by omega),z8 hm];rfl
  have hlt:m.nx<M'.nx:=Xb (by simp) q1.fr.nx;have hl':M'.lim<=m.nx:=by have:=q1.fr.lim;rw [E.lim] at this;omega
  have st:=sB hl';have gs:∀B,(M'.set m.nx B).get m.nx=some B:=λB=>y8 q1.ok _ hlt rfl;refine⟨M'.set m.nx (j4 (C9 (bS (d+1) a))),?_,(q1.ext E (by omega)).set hlt (by omega) _⟩;generalize bS (d+1) a=r at *;obtain⟨r1,r2⟩:=r;simp only [C9] at *;rw [show n+2*(d+1)+2=(n+2*d+3)+1 from by omega,enter (sf:=f35) rfl rfl];simp [f35,p9,u7,z8 hm,G7 hm,O4 hm hl,H6 hm hl,K3 hm,H7 hm,K5,hlen,g',hg2,q2,st,gs]
theorem acw (n fu d:Nat)(hfu:20000<=fu)(hd:d<=100)(hn:2*d+2<=n):C35 KW n fu d:=by
 have:=acv fu hfu d (n-(2*d+2)) hd
 rwa [show n-(2*d+2)+2*d+2=n from by omega] at this
theorem acy {m:Mem}(hm:m.Ok)(hl:m.lim<=m.nx){v:j3}{l:List dO}(h:dS m (λ_=>True) l v)(hp:aN l<=10000)(n fu:Nat)(hfu:20000<=fu):
  ∃m',o9 KW fu (n+50) (.func 15) [v] m=some [⟨.tuple [.int .i64 (oH l).1,.int .i64 (oH l).2],m'⟩]∧Ext m m':=by
 obtain⟨m1,g1,E1⟩:=acw (n+49) fu 22 hfu (by omega) (by omega) m v l hm hl h hp;have hb:=VX l 22;rw [← VU l];generalize bS 22 l=r at *;obtain⟨r1,r2⟩:=r;have hm1:=E1.ok;have hl1:m1.lim<=m1.nx:=by rw [E1.lim];exact Xl hl E1.nx
 obtain⟨x1,x2,x3,x4,x5,x6⟩:=bG hm1 hl1;refine⟨ext m1 [j4 (C9 (r1,r2))],?_,E1.trans (y9 hm1 _)⟩;have g1':o9 KW fu (n+49) (.func 35) [v,iV 22] m=_:=g1;rw [enter (sf:=f15) rfl rfl];simp only [C9] at *;by_cases h1:500<r1;have i1:decide ((500:Int)<(r1:Int))=true:=decide_eq_true (by omega);simp [f15,p9,u7,x1,x2,x3,x4,x5,x6,g1',i1,h1];have i1:decide ((500:Int)<(r1:Int))=false:=decide_eq_false (by omega);by_cases h2:20<r2;have i2:decide ((20:Int)<(r2:Int))=true:=decide_eq_true (by omega);simp [f15,p9,u7,x1,x2,x3,x4,x5,x6,g1',i1,i2,h1,h2];have i2:decide ((20:Int)<(r2:Int))=false:=decide_eq_false (by omega);simp [f15,p9,u7,x1,x2,x3,x4,x5,x6,g1',i1,i2,h1,h2]
def YX (K:Known)(n fu d:Nat):Prop:=∀(m:Mem) (row:List j3) (e:Ex),m.Ok->m.lim<=m.nx->Q6 m (λ_=>True) e row->sQ e<=10000->
 ∃m',o9 K fu n (.func 116) [.agg row,iV (d:Int)] m=some [⟨.agg (C9 (rE d e)),m'⟩]∧Ext m m'
theorem VY {n fu d:Nat}(hd1:1<=d)(hd:d<=20)(hfu:20000<=fu)(h116:YX KW n fu (d+1)){m:Mem}{p:Nat}(hm:m.Ok)(hp:p+2<m.nx)(hl:m.lim<=p){k0 n0:Int}{s0:By}{v:j3}{rows:List (List j3)}(hg0:m.get p=some (j4 (r4 k0 n0 s0 v)))(l:List Ex)(h1:pW m (λi=>i<p) 4 v rows)(h2:H8 m (λi=>i<p) l rows)(hps:aR l<=10000):
  ∀(j i:Nat),i+j=l.length->∀(s:Nat×Nat) (c c6 x8:j3) (M:Mem) (N:Nat),At (p+2) m M->M.get (p+2)=some (j4 (C9 s))->s.1<=20000->s.2<=1000->j+1<=N->
  ∃xi c' c6' x8' M',I4 (λenv m k=>vv (o9 KW fu n) fu none env m k) N (KM (.agg (r4 k0 n0 s0 v)) (iV (i:Int)) (.ptr p 0) (.ptr (p+2) 0) c (iV (d:Int)) c6 (.ptr (p+1) 0) x8) M [] =
   some [⟨.exit 0,(KM (.agg (r4 k0 n0 s0 v)) xi (.ptr p 0) (.ptr (p+2) 0) c' (iV (d:Int)) c6' (.ptr (p+1) 0) x8'),M',[],none⟩]∧At (p+2) m M'∧M'.get (p+2)=some (j4 (C9 (qb d (l.drop i) s))):=by
 have hlen0:=H8.len h2;have hlen:=h1.slice.len;rw [hlen0] at hlen;have hll:=fJ l;intro j;induction j with
 | zero=>
  intro i hi s c c6 x8 M N hA hg hs1 hs2 hN;obtain⟨N,rfl⟩:∃k,N=k+1:=⟨N-1,by omega⟩;obtain rfl:i=l.length:=by omega
  have hg0M:M.get p=some (j4 (r4 k0 n0 s0 v)):=by rw [hA.fr.old p (by omega) (by omega),hg0]
  refine⟨iV (l.length:Int),.bool false,c6,x8,M,?_,hA,?_⟩;rw [w9];simp [vv,hg0M,hlen];rw [afA,qb,hg]
 | succ j ih=>
  intro i hi s c c6 x8 M N hA hg hs1 hs2 hN;obtain⟨N,rfl⟩:∃k,N=k+1:=⟨N-1,by omega⟩;have hlt:i<l.length:=by omega
  have hlt':i<rows.length:=by omega
  have hltI:(i:Int)<(l.length:Int):=by omega
  have hM:=hA.ok;have hLM:=hA.iF;have hg0M:M.get p=some (j4 (r4 k0 n0 s0 v)):=by rw [hA.fr.old p (by omega) (by omega),hg0]
  have hd1':l.drop i=l[i]::l.drop (i+1):=Y6 hlt;rw [hd1',qb];by_cases h500:500<s.1;have h5:¬ (s.1:Int)<=500:=by omega
  obtain⟨s1,s2⟩:=s;simp only [C9] at hg h5 h500;refine⟨iV (i:Int),.bool false,c6,x8,M,?_,hA,?_⟩;have h5':¬ s1<=500:=by omega
  rw [w9];simp [vv,hg0M,hg,hlen,hlt,hltI,h5,h5'];rw [if_pos h500];simpa [C9] using hg;have pr:∀i,i<m.nx->i<p->M.get i=m.get i:=λi hi hq=>hA.fr.old i hi (by omega);obtain⟨id1,o1,a1,a2,a3,a4,a5⟩:=(pW.mono h1 hA.fr.nx pr (S':=λi=>i<p) λ_ _ h=>h).slice.at hlt';have hrow:=H8.get h2 i hlt hlt';have hr4:=hrow.row;have a4':=a4 0 4 (by omega) (by omega);rw [Y3,aar (by omega),aay] at a4';have hpi:=vF l i hlt;have hrowM:Q6 M (λ_=>True) l[i] rows[i]:=Q6.mono hA.fr.nx pr (λ_ _ _=>trivial) _ _ hrow;generalize hX:l[i]=X at *;generalize hR:rows[i]=R at *;obtain⟨m2,g2,E2⟩:=h116 M R X hM hLM hrowM (by omega);have hb:=QT X (d+1) (by omega);have hb1:(rE (d+1) X).1<=15000∧(rE (d+1) X).2<=50:=⟨by have:=hb.2.2.1;omega,by have:=hb.2.2.2;omega⟩;generalize hB:rE (d+1) X=B at *;obtain⟨b1,b2⟩:=B;obtain⟨s1,s2⟩:=s;simp only at hb1 h500 hs1 hs2;have hA2:=hA.nx E2;have E3:=y9 E2.ok [j4 (C9 (b1,b2))];have hA3:=hA2.nx E3;have hA4:=hA3.set (j4 (C9 (s1+b1,max s2 (b2+1))));obtain⟨xi',c',c6',x8',M',gg,q1,q2⟩:=ih (i+1) (by omega) (s1+b1,max s2 (b2+1)) (.bool true) (.bool false) (.ptr m2.nx 0) _ N hA4 (y8 hA3.ok _ hA3.CK rfl) (by simp only;omega) (by simp only;omega) (by omega);refine⟨xi',c',c6',x8',M',?_,q1,?_⟩;obtain⟨y1,y2,y3,y4,y5,y6⟩:=bG E2.ok hA2.iF;have hgm:m2.get (p+2)=some (j4 (C9 (s1,s2))):=(E2.old _ hA.CK).trans hg;have hg2:(ext m2 [j4 (C9 (b1,b2))]).get (p+2)=some (j4 (C9 (s1,s2))):=by rw [U8 E2.ok _ hA2.CK,hgm]
  have so:=λ(β:Type) (l:List O9) (off:Nat) (vs:List j3) (k:Mem->Option β)=>zK (β:=β) E2.ok hA2.CK hA2.lim l off vs k;have hs5:(s1:Int)<=500:=by omega
  have hs5':s1<=500:=by omega
  have hd20:¬ (20:Int)<(d:Int):=by omega
  have hd20':¬ 20<d:=by omega
  have w1:iU ((d:Int)+1)=(d:Int)+1:=L8 (by omega) (by omega);have w2:iU ((b2:Int)+1)=(b2:Int)+1:=L8 (by omega) (by omega);have w3:iU ((s1:Int)+(b1:Int))=(s1:Int)+(b1:Int):=L8 (by omega) (by omega);have q:=λx y ls env a b hx hy=>CQ (x:=x) (y:=y) (ls:=ls) (env:=env) (a:=a) (b:=b) hx hy;have cv:=h1.slice.cells;simp only [C9,show ((d+1:Nat):Int)=(d:Int)+1 from rfl] at *;rw [w9,← gg];simp [vv,p9,u7,y1,y2,y3,y4,y5,y6,hg0M,hg,hlen,hlt,hltI,hs5,hs5',hd20,hd20',a1,a4',g2,hgm,hg2,so,w1,w2,w3,q,PE,Y9 (i:=i) (by omega)];rw [if_neg h500,if_neg (by omega)];exact q2
theorem YZ {n fu d:Nat}(hd1:1<=d)(hd:d<=20)(hfu:20000<=fu)(h116:YX KW n fu (d+1)){m:Mem}{p:Nat}(hm:m.Ok)(hp:p+2<m.nx)(hl:m.lim<=p){k0:Int}{s0:By}{v vt vf:j3}{rows:List (List j3)}(hg0:m.get p=some (j4 (r5 k0 s0 v vt vf)))(l:List Ex)(h1:pW m (λi=>i<p) 4 v rows)(h2:H8 m (λi=>i<p) l rows)(hps:aR l<=10000):
  ∀(j i:Nat),i+j=l.length->∀(s:Nat×Nat) (c x8:j3) (M:Mem) (N:Nat),At (p+2) m M->M.get (p+2)=some (j4 (C9 s))->s.1<=20000->s.2<=1000->j+1<=N->
  ∃xi c' x8' M',I4 (λenv m k=>Iy (o9 KW fu n) fu none env m k) N (xW (.agg (r5 k0 s0 v vt vf)) (iV (d:Int)) (.bool false) (.ptr (p+1) 0) (iV (i:Int)) (.ptr p 0) (.ptr (p+2) 0) c x8 .undef .undef) M [] =
   some [⟨.exit 0,(xW (.agg (r5 k0 s0 v vt vf)) (iV (d:Int)) (.bool false) (.ptr (p+1) 0) xi (.ptr p 0) (.ptr (p+2) 0) c' x8' .undef .undef),M',[],none⟩]∧At (p+2) m M'∧M'.get (p+2)=some (j4 (C9 (Oa d (l.drop i) s))):=by
 have hlen0:=H8.len h2;have hlen:=h1.slice.len;rw [hlen0] at hlen;have hll:=fJ l;intro j;induction j with
 | zero=>
  intro i hi s c x8 M N hA hg hs1 hs2 hN;obtain⟨N,rfl⟩:∃k,N=k+1:=⟨N-1,by omega⟩;obtain rfl:i=l.length:=by omega
  have hg0M:M.get p=some (j4 (r5 k0 s0 v vt vf)):=by rw [hA.fr.old p (by omega) (by omega),hg0]
  refine⟨iV (l.length:Int),.bool false,x8,M,?_,hA,?_⟩;rw [w9];simp [Iy,hg0M,hlen];rw [afA,Oa,hg]
 | succ j ih=>
  intro i hi s c x8 M N hA hg hs1 hs2 hN;obtain⟨N,rfl⟩:∃k,N=k+1:=⟨N-1,by omega⟩;have hlt:i<l.length:=by omega
  have hlt':i<rows.length:=by omega
  have hltI:(i:Int)<(l.length:Int):=by omega
  have hM:=hA.ok;have hLM:=hA.iF;have hg0M:M.get p=some (j4 (r5 k0 s0 v vt vf)):=by rw [hA.fr.old p (by omega) (by omega),hg0]
  have hd1':l.drop i=l[i]::l.drop (i+1):=Y6 hlt;rw [hd1',Oa];by_cases h500:500<s.1;have h5:¬ (s.1:Int)<=500:=by omega
  obtain⟨s1,s2⟩:=s;simp only [C9] at hg h5 h500;refine⟨iV (i:Int),.bool false,x8,M,?_,hA,?_⟩;have h5':¬ s1<=500:=by omega
  rw [w9];simp [Iy,hg0M,hg,hlen,hlt,hltI,h5,h5'];rw [if_pos h500];simpa [C9] using hg;have pr:∀i,i<m.nx->i<p->M.get i=m.get i:=λi hi hq=>hA.fr.old i hi (by omega);obtain⟨id1,o1,a1,a2,a3,a4,a5⟩:=(pW.mono h1 hA.fr.nx pr (S':=λi=>i<p) λ_ _ h=>h).slice.at hlt';have hrow:=H8.get h2 i hlt hlt';have hr4:=hrow.row;have a4':=a4 0 4 (by omega) (by omega);rw [Y3,aar (by omega),aay] at a4';have hpi:=vF l i hlt;have hrowM:Q6 M (λ_=>True) l[i] rows[i]:=Q6.mono hA.fr.nx pr (λ_ _ _=>trivial) _ _ hrow;generalize hX:l[i]=X at *;generalize hR:rows[i]=R at *;obtain⟨m2,g2,E2⟩:=h116 M R X hM hLM hrowM (by omega);have hb:=QT X (d+1) (by omega);have hb1:(rE (d+1) X).1<=15000∧(rE (d+1) X).2<=50:=⟨by have:=hb.2.2.1;omega,by have:=hb.2.2.2;omega⟩;generalize hB:rE (d+1) X=B at *;obtain⟨b1,b2⟩:=B;obtain⟨s1,s2⟩:=s;simp only at hb1 h500 hs1 hs2;have hA2:=hA.nx E2;have E3:=y9 E2.ok [j4 (C9 (b1,b2))];have hA3:=hA2.nx E3;have hA4:=hA3.set (j4 (C9 (s1+b1,max s2 (b2+1))));obtain⟨xi',c',x8',M',gg,q1,q2⟩:=ih (i+1) (by omega) (s1+b1,max s2 (b2+1)) (.bool true) (.ptr m2.nx 0) _ N hA4 (y8 hA3.ok _ hA3.CK rfl) (by simp only;omega) (by simp only;omega) (by omega);refine⟨xi',c',x8',M',?_,q1,?_⟩;obtain⟨y1,y2,y3,y4,y5,y6⟩:=bG E2.ok hA2.iF;have hgm:m2.get (p+2)=some (j4 (C9 (s1,s2))):=(E2.old _ hA.CK).trans hg;have hg2:(ext m2 [j4 (C9 (b1,b2))]).get (p+2)=some (j4 (C9 (s1,s2))):=by rw [U8 E2.ok _ hA2.CK,hgm]
  have so:=λ(β:Type) (l:List O9) (off:Nat) (vs:List j3) (k:Mem->Option β)=>zK (β:=β) E2.ok hA2.CK hA2.lim l off vs k;have hs5:(s1:Int)<=500:=by omega
  have hs5':s1<=500:=by omega
  have hd20:¬ (20:Int)<(d:Int):=by omega
  have hd20':¬ 20<d:=by omega
  have w1:iU ((d:Int)+1)=(d:Int)+1:=L8 (by omega) (by omega);have w2:iU ((b2:Int)+1)=(b2:Int)+1:=L8 (by omega) (by omega);have w3:iU ((s1:Int)+(b1:Int))=(s1:Int)+(b1:Int):=L8 (by omega) (by omega);have q:=λx y ls env a b hx hy=>CQ (x:=x) (y:=y) (ls:=ls) (env:=env) (a:=a) (b:=b) hx hy;have cv:=h1.slice.cells;simp only [C9,show ((d+1:Nat):Int)=(d:Int)+1 from rfl] at *;rw [w9,← gg];simp [Iy,p9,u7,y1,y2,y3,y4,y5,y6,hg0M,hg,hlen,hlt,hltI,hs5,hs5',hd20,hd20',a1,a4',g2,hgm,hg2,so,w1,w2,w3,q,PE,Y9 (i:=i) (by omega)];rw [if_neg h500];exact q2
theorem Za (fu:Nat)(hfu:20000<=fu):∀r n d:Nat,1<=d->d<=21->21-d<=r->YX KW (n+r+1) fu d:=by
 intro r;induction r with
 | zero=>
  intro n d hd1 hd hr m row e hm hl h hp;obtain rfl:d=21:=by omega
  obtain⟨k0,n0,s0,a⟩:=e;obtain⟨v,rows,rfl,h1,h2⟩:=h;have hlen0:=H8.len h2;have hlen:=h1.slice.len;rw [hlen0] at hlen;have cv:=h1.slice.cells;have ov:=h1.slice.K5;obtain⟨fu,rfl⟩:∃k,fu=k+1:=⟨fu-1,by omega⟩;match a,h2 with
  | [],h2=>refine⟨ext m [j4 (r4 k0 n0 s0 v),j4 (C9 (1,1)),j4 (C9 (1,1))],?_,y9 hm _⟩;rw [enter (sf:=f116) rfl rfl];simp [f116,vv,w9,p9,u7,z8 hm,G7 hm,O4 hm hl,H6 hm hl,K3 hm,H7 hm,K5,hlen,cv,ov,rE,qb,C9]
  | e::a,h2=>
   refine⟨ext m [j4 (r4 k0 n0 s0 v),j4 (C9 (501,21)),j4 (C9 (1,1))],?_,y9 hm _⟩;have hlt:(0:Int)<((a.length:Int)+1):=by omega
   rw [enter (sf:=f116) rfl rfl];simp [f116,vv,w9,p9,u7,z8 hm,G7 hm,O4 hm hl,H6 hm hl,K3 hm,H7 hm,K5,hlen,cv,ov,hlt,rE,qb,C9]
 | succ r ih=>
  intro n d hd1 hd hr;by_cases hz:21-d<=r;have:=ih (n+1) d hd1 hd hz
  rwa [show n+1+r+1=n+(r+1)+1 from by omega] at this
  intro m row e hm hl h hp;obtain⟨k0,n0,s0,a⟩:=e;obtain⟨v,rows,rfl,h1,h2⟩:=h;have hlen0:=H8.len h2;have hlen:=h1.slice.len;rw [hlen0] at hlen;have cv:=h1.slice.cells;have ov:=h1.slice.K5;rw [sQ] at hp;have hal:=fJ a;have E:=y9 hm [j4 (r4 k0 n0 s0 v),j4 (C9 (0,0)),j4 (C9 (1,1))];have hA:At (m.nx+2) (ext m [j4 (r4 k0 n0 s0 v),j4 (C9 (0,0)),j4 (C9 (1,1))]) _:=At.start E.ok (by simp) (by rw [E.lim];omega);have h1':=pW.mono (m':=ext m [j4 (r4 k0 n0 s0 v),j4 (C9 (0,0)),j4 (C9 (1,1))]) h1 E.nx (λi hi _=>E.old i hi) (S':=λi=>i<m.nx) λ_ h _=>h;have h2':=H8.mono (S':=λi=>i<m.nx) E.nx (λi hi _=>E.old i hi) (λ_ h _=>h) _ _ h2;obtain⟨xi,c',c6',x8',M',g,q1,q2⟩:=VY (n:=n+r+1) (p:=m.nx) hd1 (by omega) hfu (ih n (d+1) (by omega) (by omega) (by omega)) E.ok (by simp) (by rw [E.lim];exact hl) (by rw [z8 hm];rfl) a h1' h2' (by omega) a.length 0 (by omega) (1,1) .undef .undef .undef (_) fu hA (by rw [G7 hm];rfl) (by simp) (by simp) (by omega);have g':I4 (λenv m k=>vv (o9 KW fu (n+r+1)) fu none env m k) fu (KM (.agg (r4 k0 n0 s0 v)) (iV 0) (.ptr m.nx 0) (.ptr (m.nx+2) 0) .undef (iV (d:Int)) .undef (.ptr (m.nx+1) 0) .undef) (ext m [j4 (r4 k0 n0 s0 v),j4 [iV 0,iV 0],j4 [iV 1,iV 1]]) []=_:=g;rw [Y3] at q2;have hg2:M'.get (m.nx+1)=some (j4 [iV 0,iV 0]):=by rw [q1.fr.old _ (by simp) (by omega),G7 hm];rfl
  have hlt:m.nx+1<M'.nx:=Xb (by simp) q1.fr.nx;have hl':M'.lim<=m.nx+1:=by have:=q1.fr.lim;rw [E.lim] at this;omega
  have st:=sB hl';have gs:∀B,(M'.set (m.nx+1) B).get (m.nx+1)=some B:=λB=>y8 q1.ok _ hlt rfl;refine⟨M'.set (m.nx+1) (j4 (C9 (rE d (.mk k0 n0 s0 a)))),?_,(q1.ext E (by omega)).set hlt (by omega) _⟩;rw [rE];generalize qb d a (1,1)=r at *;obtain⟨r1,r2⟩:=r;simp only [C9] at *;rw [show n+(r+1)+1=(n+r+1)+1 from by omega,enter (sf:=f116) rfl rfl];simp [f116,p9,u7,z8 hm,G7 hm,O4 hm hl,H6 hm hl,K3 hm,H7 hm,K5,cv,ov,g',hg2,q2,st,gs]
theorem Zb (n fu d:Nat)(hfu:20000<=fu)(hd1:1<=d)(hd:d<=21)(hn:30<=n):YX KW n fu d:=by
 have:=Za fu hfu 25 (n-26) d hd1 hd (by omega)
 rwa [show n-26+25+1=n from by omega] at this
def C36 (K:Known)(n fu d:Nat):Prop:=∀(m:Mem) (v:j3) (l:List dO),m.Ok->m.lim<=m.nx->dS m (λ_=>True) l v->aN l<=10000->
 ∃m',o9 K fu n (.func 36) [v,iV (d:Int)] m=some [⟨.agg (C9 (xZ d l (0,0))),m'⟩]∧Ext m m'
theorem amQ {x y z:OF}{ls:List j3}{env:T j3}{a b c:Int}(hx:x ls env=.int .i64 a)(hy:y ls env=.int .i64 b)(hz:z ls env=.int .i64 c):WM true x [y,z] ls env=some (.int .i64 (max (max a b) c)):=by
 have h1:∀a b:Int,bi (jF a b) b a=max a b:=λa b=>by rw [fG];by_cases h:a<b;rw [decide_eq_true h,P7];omega;rw [decide_eq_false h,S9];omega
 show ob (mm2 true (x ls env) (y ls env)) (λw=>ob (mm2 true w (z ls env)) some)=_;rw [hx,hy,hz];show some (j3.int .i64 (bi (jF (bi (jF a b) b a) c) c (bi (jF a b) b a)))=_;rw [h1,h1]
theorem VZ (d:Nat)(hd:1<=d):20000*3^(21-d)<=69735688020000:=by
 have:=Nat.pow_le_pow_right (n:=3) (by omega) (show 21-d<=20 from by omega);have e:3^20=3486784401:=by decide
 omega
theorem acz {n fu d:Nat}(hn:30<=n)(hfu:20000<=fu)(hd1:1<=d)(hd:d<=21)(h36:d<=20->C36 KW n fu (d+1)){m:Mem}(hm:m.Ok)(hl:m.lim<=m.nx){row:List j3}{e:dO}(h:iE m (λ_=>True) e row)(hp:stP e<=10000):
  ∃m',o9 KW fu (n+1) (.func 77) [.agg row,iV (d:Int)] m=some [⟨.agg (C9 (Pz d e)),m'⟩]∧Ext m m':=by
 obtain⟨k0,s0,a,t,f⟩:=e;obtain⟨v,vt,vf,re,rt,rf,rfl,he1,he2,ht1,ht2,hf1,hf2⟩:=h;rw [stP] at hp;have cv:=he1.slice.cells;have ov:=he1.slice.K5;have ct:=ht1.slice.cells;have ot:=ht1.slice.K5;have cf:=hf1.slice.cells;have of:=hf1.slice.K5;rw [Pz];by_cases h20:20<d;have i20:(20:Int)<(d:Int):=by omega
 refine⟨ext m [j4 (r5 k0 s0 v vt vf),j4 (C9 (501,21)),j4 (C9 (1,1))],?_,y9 hm _⟩;rw [if_pos h20,enter (sf:=f77) rfl rfl];simp [f77,p9,u7,z8 hm,G7 hm,O4 hm hl,H6 hm hl,K3 hm,H7 hm,K5,cv,ov,ct,ot,cf,of,i20,h20,C9];have i20:¬ (20:Int)<(d:Int):=by omega
 rw [if_neg h20];have hlen0:=H8.len he2;have hal:=fJ a;have E:=y9 hm [j4 (r5 k0 s0 v vt vf),j4 (C9 (0,0)),j4 (C9 (1,1))];have hA:At (m.nx+2) (ext m [j4 (r5 k0 s0 v vt vf),j4 (C9 (0,0)),j4 (C9 (1,1))]) _:=At.start E.ok (by simp) (by rw [E.lim];omega);have h1':=pW.mono (m':=ext m [j4 (r5 k0 s0 v vt vf),j4 (C9 (0,0)),j4 (C9 (1,1))]) he1 E.nx (λi hi _=>E.old i hi) (S':=λi=>i<m.nx) λ_ h _=>h;have h2':=H8.mono (S':=λi=>i<m.nx) E.nx (λi hi _=>E.old i hi) (λ_ h _=>h) _ _ he2;obtain⟨xi,c',x8',M',g,q1,q2⟩:=YZ (n:=n) (p:=m.nx) hd1 (by omega) hfu (Zb n fu (d+1) hfu (by omega) (by omega) hn) E.ok (by simp) (by rw [E.lim];exact hl) (by rw [z8 hm];rfl) a h1' h2' (by omega) a.length 0 (by omega) (1,1) .undef .undef (_) fu hA (by rw [G7 hm];rfl) (by simp) (by simp) (by omega);have g':I4 (λenv m k=>Iy (o9 KW fu n) fu none env m k) fu (xW (.agg (r5 k0 s0 v vt vf)) (iV (d:Int)) (.bool false) (.ptr (m.nx+1) 0) (iV 0) (.ptr m.nx 0) (.ptr (m.nx+2) 0) .undef .undef .undef .undef) (ext m [j4 (r5 k0 s0 v vt vf),j4 [iV 0,iV 0],j4 [iV 1,iV 1]]) []=_:=g;rw [Y3] at q2;have hE:=PD a d 1 1 (by omega) (by omega) (by omega);have hOb:(Oa d a (1,1)).1<=20000∧(Oa d a (1,1)).2<=100:=⟨by have:=hE.2.2.1 (by omega);omega,by have:=hE.2.2.2.1;omega⟩;generalize Oa d a (1,1)=O at *;have EM:=q1.ext E (by omega);have tr:∀M,Ext m M->∀(l:List dO) (v:j3) (rows:List (List j3)),pW m (λ_=>True) 5 v rows->G8 m (λ_=>True) l rows->dS M (λ_=>True) l v:=λM E l v rows x1 x2=>dS.ext ⟨rows,x1,x2⟩ E;have hlM:M'.lim<=M'.nx:=by rw [EM.lim];exact Xl hl EM.nx
 obtain⟨m2,g2,E2⟩:=h36 (by omega) M' vt t EM.ok hlM (tr M' EM t vt rt ht1 ht2) (by omega);have ht:=yc t (d+1) 0 0 (by omega) (by omega) (by omega);have hbig:=VZ (d+1) (by omega);have htb:(xZ (d+1) t (0,0)).1<=80000000000000∧(xZ (d+1) t (0,0)).2<=100:=⟨by have:=ht.2.2.1 (by omega);omega,by have:=ht.2.2.2.1;omega⟩;generalize xZ (d+1) t (0,0)=T at *;have E3:=y9 E2.ok [j4 (C9 T)];have EM3:=EM.trans (E2.trans E3);have hl2:m2.lim<=m2.nx:=by rw [E2.lim];exact Xl hlM E2.nx
 have hl3:(ext m2 [j4 (C9 T)]).lim<=(ext m2 [j4 (C9 T)]).nx:=by rw [E3.lim];exact Xl hl2 E3.nx
 obtain⟨m4,g4,E4⟩:=h36 (by omega) _ vf f E3.ok hl3 (tr _ EM3 f vf rf hf1 hf2) (by omega);have hf:=yc f (d+1) 0 0 (by omega) (by omega) (by omega);have hfb:(xZ (d+1) f (0,0)).1<=80000000000000∧(xZ (d+1) f (0,0)).2<=100:=⟨by have:=hf.2.2.1 (by omega);omega,by have:=hf.2.2.2.1;omega⟩;generalize xZ (d+1) f (0,0)=F at *;have E5:=y9 E4.ok [j4 (C9 F)];have EM5:=EM3.trans (E4.trans E5);have hl4:m4.lim<=m4.nx:=by rw [E4.lim];exact Xl hl3 E4.nx
 obtain⟨y1,y2,y3,y4,y5,y6⟩:=bG E2.ok hl2;obtain⟨z1,z2,z3,z4,z5,z6⟩:=bG E4.ok hl4;have n1:m.nx+2<M'.nx:=Xb (by simp) q1.fr.nx;have n2:M'.nx<=m2.nx:=E2.nx;have n4:m2.nx<m4.nx:=Xb (by simp) E4.nx;have gM0:M'.get m.nx=some (j4 (r5 k0 s0 v vt vf)):=by rw [q1.fr.old _ (by simp) (by omega),z8 hm];rfl
 have gM1:M'.get (m.nx+1)=some (j4 [iV 0,iV 0]):=by rw [q1.fr.old _ (by simp) (by omega),G7 hm];rfl
 have up:∀i,i<M'.nx->(ext m4 [j4 (C9 F)]).get i=M'.get i:=λi hi=>by rw [E5.old _ (by omega),E4.old _ (by simp;omega),E3.old _ (by omega),E2.old _ hi]
 have up2:∀i,i<M'.nx->(ext m2 [j4 (C9 T)]).get i=M'.get i:=λi hi=>by rw [E3.old _ (by omega),E2.old _ hi]
 have u0:=(up m.nx (by omega)).trans gM0;have u1:=(up (m.nx+1) (by omega)).trans gM1;have u2:=(up (m.nx+2) (by omega)).trans q2;have v0:=(up2 m.nx (by omega)).trans gM0;have u9:(ext m4 [j4 (C9 F)]).get m2.nx=some (j4 (C9 T)):=by rw [E5.old _ n4,E4.old _ (by simp),z8 E2.ok];rfl
 have hlt1:m.nx+1<(ext m4 [j4 (C9 F)]).nx:=by simp;omega
 have hl':(ext m4 [j4 (C9 F)]).lim<=m.nx+1:=by rw [EM5.lim];omega
 have st:=sB hl';have gs:∀B,((ext m4 [j4 (C9 F)]).set (m.nx+1) B).get (m.nx+1)=some B:=λB=>y8 E5.ok _ hlt1 rfl;obtain⟨O1,O2⟩:=O;obtain⟨T1,T2⟩:=T;obtain⟨F1,F2⟩:=F;refine⟨(ext m4 [j4 (C9 (F1,F2))]).set (m.nx+1) (j4 (C9 (O1+T1+F1,max O2 (max (T2+1) (F2+1))))),?_,EM5.set hlt1 (by omega) _⟩;have q:=λx y z ls env a b c hx hy hz=>amQ (x:=x) (y:=y) (z:=z) (ls:=ls) (env:=env) (a:=a) (b:=b) (c:=c) hx hy hz;have w1:iU ((d:Int)+1)=(d:Int)+1:=L8 (by omega) (by omega);have w2:iU ((T2:Int)+1)=(T2:Int)+1:=L8 (by omega) (by omega);have w3:iU ((F2:Int)+1)=(F2:Int)+1:=L8 (by omega) (by omega);have w4:iU ((O1:Int)+(T1:Int))=(O1:Int)+(T1:Int):=L8 (by omega) (by omega);have w5:iU ((O1:Int)+(T1:Int)+(F1:Int))=(O1:Int)+(T1:Int)+(F1:Int):=L8 (by omega) (by omega);have cm3:((max O2 (max (T2+1) (F2+1)):Nat):Int)=max (max (O2:Int) ((T2:Int)+1)) ((F2:Int)+1):=by omega
 have hmx:∀a b c:Int,max (max a b) c=max a (max b c):=λa b c=>by omega
 simp only [C9,show ((d+1:Nat):Int)=(d:Int)+1 from rfl] at *;rw [enter (sf:=f77) rfl rfl];simp [f77,p9,u7,z8 hm,G7 hm,O4 hm hl,H6 hm hl,K3 hm,H7 hm,K5,cv,ov,ct,ot,cf,of,i20,h20,g',y1,y2,y3,y4,y5,y6,z1,z2,z3,z4,z5,z6,gM0,u0,u1,u2,u9,v0,g2,g4,st,gs,w1,w2,w3,w4,w5,q,PE,hmx]
theorem Zc {n fu d:Nat}(hn:30<=n)(hd1:1<=d)(hd:d<=21)(hfu:20000<=fu)(h36:d<=20->C36 KW n fu (d+1)){m:Mem}{p:Nat}(hm:m.Ok)(hp:p+1<m.nx)(hl:m.lim<=p){v:j3}{rows:List (List j3)}(l:List dO)(h1:pW m (λi=>i<p) 5 v rows)(h2:G8 m (λi=>i<p) l rows)(hps:aN l<=10000):
  ∀(j i:Nat),i+j=l.length->∀(s:Nat×Nat) (c x5:j3) (M:Mem) (N:Nat),At (p+1) m M->M.get (p+1)=some (j4 (C9 s))->s.1<=80000000000000->s.2<=1000->j+1<=N->
  ∃xi c' x5' M',I4 (λenv m k=>Iu (o9 KW fu (n+1)) fu none env m k) N (TV (iV (i:Int)) v (.ptr (p+1) 0) c (iV (d:Int)) x5 (.ptr p 0)) M [] =
   some [⟨.exit 0,(TV xi v (.ptr (p+1) 0) c' (iV (d:Int)) x5' (.ptr p 0)),M',[],none⟩]∧At (p+1) m M'∧M'.get (p+1)=some (j4 (C9 (xZ d (l.drop i) s))):=by
 have hlen0:=G8.len h2;have hlen:=h1.slice.len;rw [hlen0] at hlen;have hll:=oI l;intro j;induction j with
 | zero=>
  intro i hi s c x5 M N hA hg hs1 hs2 hN;obtain⟨N,rfl⟩:∃k,N=k+1:=⟨N-1,by omega⟩;obtain rfl:i=l.length:=by omega
  refine⟨iV (l.length:Int),.bool false,x5,M,?_,hA,?_⟩;rw [w9];simp [Iu,hlen];rw [afA,xZ,hg]
 | succ j ih=>
  intro i hi s c x5 M N hA hg hs1 hs2 hN;obtain⟨N,rfl⟩:∃k,N=k+1:=⟨N-1,by omega⟩;have hlt:i<l.length:=by omega
  have hlt':i<rows.length:=by omega
  have hltI:(i:Int)<(l.length:Int):=by omega
  have hM:=hA.ok;have hLM:=hA.iF;have hd1':l.drop i=l[i]::l.drop (i+1):=Y6 hlt;rw [hd1',xZ];by_cases h500:500<s.1;obtain⟨s1,s2⟩:=s;simp only [C9] at hg h500;refine⟨iV (i:Int),.bool false,x5,M,?_,hA,?_⟩;have h5':¬ s1<=500:=by omega
  have h5:¬ (s1:Int)<=500:=by omega
  rw [w9];simp [Iu,hg,hlen,hlt,hltI,h5,h5'];rw [if_pos h500];simpa [C9] using hg;have pr:∀i,i<m.nx->i<p->M.get i=m.get i:=λi hi hq=>hA.fr.old i hi (by omega);obtain⟨id1,o1,a1,a2,a3,a4,a5⟩:=(pW.mono h1 hA.fr.nx pr (S':=λi=>i<p) λ_ _ h=>h).slice.at hlt';have hrow:=G8.get h2 i hlt hlt';have hr4:=hrow.row;have a4':=a4 0 5 (by omega) (by omega);rw [Y3,aar (by omega),aay] at a4';have hpi:=zL l i hlt;have hrowM:iE M (λ_=>True) l[i] rows[i]:=iE.mono hA.fr.nx pr (λ_ _ _=>trivial) _ _ hrow;generalize hX:l[i]=X at *;generalize hR:rows[i]=R at *;obtain⟨m2,g2,E2⟩:=acz hn hfu hd1 hd h36 hM hLM hrowM (by omega);have hb:=VW X d hd1 hd;have hbig:=VZ d hd1;have hb1:(Pz d X).1<=70000000000000∧(Pz d X).2<=100:=⟨by have:=hb.2.2.1;omega,by have:=hb.2.2.2;omega⟩;generalize hB:Pz d X=B at *;obtain⟨b1,b2⟩:=B;obtain⟨s1,s2⟩:=s;simp only at hb1 h500 hs1 hs2;have hA2:=hA.nx E2;have E3:=y9 E2.ok [j4 (C9 (b1,b2))];have hA3:=hA2.nx E3;have hA4:=hA3.set (j4 (C9 (s1+b1,max s2 b2)));obtain⟨xi',c',x5',M',gg,q1,q2⟩:=ih (i+1) (by omega) (s1+b1,max s2 b2) (.bool true) (.ptr m2.nx 0) _ N hA4 (y8 hA3.ok _ hA3.CK rfl) (by simp only;omega) (by simp only;omega) (by omega);refine⟨xi',c',x5',M',?_,q1,?_⟩;obtain⟨y1,y2,y3,y4,y5,y6⟩:=bG E2.ok hA2.iF;have hgm:m2.get (p+1)=some (j4 (C9 (s1,s2))):=(E2.old _ hA.CK).trans hg;have hg2:(ext m2 [j4 (C9 (b1,b2))]).get (p+1)=some (j4 (C9 (s1,s2))):=by rw [U8 E2.ok _ hA2.CK,hgm]
  have so:=λ(β:Type) (l:List O9) (off:Nat) (vs:List j3) (k:Mem->Option β)=>zK (β:=β) E2.ok hA2.CK hA2.lim l off vs k;have hs5:(s1:Int)<=500:=by omega
  have hs5':s1<=500:=by omega
  have w3:iU ((s1:Int)+(b1:Int))=(s1:Int)+(b1:Int):=L8 (by omega) (by omega);have q:=λx y ls env a b hx hy=>CQ (x:=x) (y:=y) (ls:=ls) (env:=env) (a:=a) (b:=b) hx hy;simp only [C9] at *;rw [w9,← gg];simp [Iu,p9,u7,y1,y2,y3,y4,y5,y6,hg,hlen,hlt,hltI,hs5,hs5',a1,a4',g2,hgm,hg2,so,w3,q,PE,Y9 (i:=i) (by omega)];rw [if_neg h500];exact q2
theorem ND (fu:Nat)(hfu:20000<=fu)(n d:Nat)(hn:30<=n)(hd1:1<=d)(hd:d<=21)(h36:d<=20->C36 KW n fu (d+1)):C36 KW (n+2) fu d:=by
 intro m v a hm hl h hp;obtain⟨rows,h1,h2⟩:=h;have hal:=oI a;have E:=y9 hm [j4 (C9 (0,0)),j4 (C9 (0,0))];have hA:At (m.nx+1) (ext m [j4 (C9 (0,0)),j4 (C9 (0,0))]) _:=At.start E.ok (by simp) (by rw [E.lim];omega);have h1':=pW.mono (m':=ext m [j4 (C9 (0,0)),j4 (C9 (0,0))]) h1 E.nx (λi hi _=>E.old i hi) (S':=λi=>i<m.nx) λ_ h _=>h;have h2':=G8.mono (S':=λi=>i<m.nx) E.nx (λi hi _=>E.old i hi) (λ_ h _=>h) _ _ h2;obtain⟨xi,c',x5',M',g,q1,q2⟩:=Zc (n:=n) (p:=m.nx) hn hd1 hd hfu h36 E.ok (by simp) (by rw [E.lim];exact hl) a h1' h2' hp a.length 0 (by omega) (0,0) .undef .undef (_) fu hA (by rw [G7 hm];rfl) (by simp) (by simp) (by omega);have g':I4 (λenv m k=>Iu (o9 KW fu (n+1)) fu none env m k) fu (TV (iV 0) v (.ptr (m.nx+1) 0) .undef (iV (d:Int)) .undef (.ptr m.nx 0)) (ext m [j4 [iV 0,iV 0],j4 [iV 0,iV 0]]) []=_:=g;rw [Y3] at q2;have hg2:M'.get m.nx=some (j4 [iV 0,iV 0]):=by rw [q1.fr.old _ (by simp) (by omega),z8 hm];rfl
 have hlt:m.nx<M'.nx:=Xb (by simp) q1.fr.nx;have hl':M'.lim<=m.nx:=by have:=q1.fr.lim;rw [E.lim] at this;omega
 have st:=sB hl';have gs:∀B,(M'.set m.nx B).get m.nx=some B:=λB=>y8 q1.ok _ hlt rfl;refine⟨M'.set m.nx (j4 (C9 (xZ d a (0,0)))),?_,(q1.ext E (by omega)).set hlt (by omega) _⟩;generalize xZ d a (0,0)=r at *;obtain⟨r1,r2⟩:=r;simp only [C9] at *;rw [enter (sf:=f36) rfl rfl];simp [f36,p9,u7,z8 hm,G7 hm,O4 hm hl,H6 hm hl,K3 hm,H7 hm,K5,g',hg2,q2,st,gs]
theorem acA (fu:Nat)(hfu:20000<=fu):∀r n d:Nat,30<=n->1<=d->d<=21->21-d<=r->C36 KW (n+2*r+2) fu d:=by
 intro r;induction r with
 | zero=>intro n d hn hd1 hd hr;exact ND fu hfu n d hn hd1 hd (λh=>by omega)
 | succ r ih=>
  intro n d hn hd1 hd hr;have:=ND fu hfu (n+2*r+2) d (by omega) hd1 hd (λh=>ih n (d+1) hn (by omega) (by omega) (by omega))
  rwa [show n+2*r+2+2=n+2*(r+1)+2 from by omega] at this
theorem acB (n fu:Nat)(hfu:20000<=fu)(hn:100<=n):C36 KW n fu 1:=by
 have:=acA fu hfu 20 (n-42) 1 (by omega) (by omega) (by omega) (by omega)
 rwa [show n-42+2*20+2=n from by omega] at this
theorem acC {m:Mem}(hm:m.Ok)(hl:m.lim<=m.nx){v:j3}{l:List dO}(h:dS m (λ_=>True) l v)(hp:aN l<=10000)(n fu:Nat)(hfu:20000<=fu):
  ∃m',o9 KW fu (n+101) (.func 16) [v] m=some [⟨.tuple [.int .i64 (oH l).1,.int .i64 (oH l).2],m'⟩]∧Ext m m':=by
 obtain⟨m1,g1,E1⟩:=acB (n+100) fu hfu (by omega) m v l hm hl h hp;have hb:=yc l 1 0 0 (by omega) (by omega) (by omega);rw [← Tm l];generalize xZ 1 l (0,0)=r at *;obtain⟨r1,r2⟩:=r;have hm1:=E1.ok;have hl1:m1.lim<=m1.nx:=by rw [E1.lim];exact Xl hl E1.nx
 obtain⟨x1,x2,x3,x4,x5,x6⟩:=bG hm1 hl1;refine⟨ext m1 [j4 (C9 (r1,r2))],?_,E1.trans (y9 hm1 _)⟩;have g1':o9 KW fu (n+100) (.func 36) [v,iV 1] m=_:=g1;rw [enter (sf:=f16) rfl rfl];simp only [C9] at *;by_cases h1:500<r1;have i1:decide ((500:Int)<(r1:Int))=true:=decide_eq_true (by omega);simp [f16,p9,u7,x1,x2,x3,x4,x5,x6,g1',i1,h1];have i1:decide ((500:Int)<(r1:Int))=false:=decide_eq_false (by omega);by_cases h2:20<r2;have i2:decide ((20:Int)<(r2:Int))=true:=decide_eq_true (by omega);simp [f16,p9,u7,x1,x2,x3,x4,x5,x6,g1',i1,i2,h1,h2];have i2:decide ((20:Int)<(r2:Int))=false:=decide_eq_false (by omega);simp [f16,p9,u7,x1,x2,x3,x4,x5,x6,g1',i1,i2,h1,h2]
def C31 (K:Known)(n fu:Nat)(k:Nat):Prop:=∀(m:Mem) (v1 v2:j3) (a:List Ex),m.Ok->m.lim<=m.nx->pX m (λ_=>True) a v1->pX m (λ_=>True) a v2->eP a<=k->aR a<=10000->
 ∃m',o9 K fu n (.func 31) [v1,v2] m=some [⟨.bool true,m'⟩]∧Ext m m'
theorem acD {n fu k:Nat}(h31:C31 KW n fu k){m:Mem}(hm:m.Ok)(hl:m.lim<=m.nx){r1 r2:List j3}{e:Ex}(h1:Q6 m (λ_=>True) e r1)(h2:Q6 m (λ_=>True) e r2)(hk:CJ e<=k+1)(hp:sQ e<=10000):
  ∃m',o9 KW fu (n+1) (.func 66) [.agg r1,.agg r2] m=some [⟨.bool true,m'⟩]∧Ext m m':=by
 obtain⟨k0,n0,s0,a⟩:=e;obtain⟨v1,rows1,rfl,a1,a2⟩:=h1;obtain⟨v2,rows2,rfl,b1,b2⟩:=h2;rw [CJ] at hk;rw [sQ] at hp;have c1:=a1.slice.cells;have o1:=a1.slice.K5;have c2:=b1.slice.cells;have o2:=b1.slice.K5;have E:=y9 hm [j4 (r4 k0 n0 s0 v1),j4 (r4 k0 n0 s0 v2)];obtain⟨m',g,E'⟩:=h31 (ext m [j4 (r4 k0 n0 s0 v1),j4 (r4 k0 n0 s0 v2)]) v1 v2 a E.ok (by rw [E.lim];exact Xl hl E.nx) (pX.ext ⟨rows1,a1,a2⟩ E) (pX.ext ⟨rows2,b1,b2⟩ E) (by omega) (by omega);refine⟨m',?_,E.trans E'⟩;rw [enter (sf:=f66) rfl rfl];simp [f66,p9,u7,z8 hm,G7 hm,O4 hm hl,H6 hm hl,K3 hm,H7 hm,K5,c1,o1,c2,o2,g]
theorem NG:∀(l:List Ex) (i:Nat) (h:i<l.length),CJ l[i]<=eP l
 | e::l,0,h=>by simp [eP];omega
 | e::l,i+1,h=>by have:=NG l i (by simpa using h);simp [eP];omega
theorem Zd {n fu k:Nat}(hfu:20000<=fu)(h31:C31 KW n fu k){m:Mem}(hm:m.Ok)(hl:m.lim<=m.nx){v1 v2:j3}{rows1 rows2:List (List j3)}(a:List Ex)(a1:pW m (λ_=>True) 4 v1 rows1)(a2:H8 m (λ_=>True) a rows1)(b1:pW m (λ_=>True) 4 v2 rows2)(b2:H8 m (λ_=>True) a rows2)(hk:eP a<=k+1)(hp:aR a<=10000):
  ∀(j i:Nat),i+j=a.length->∀(c4 c5:j3) (M:Mem) (N:Nat),Ext m M->j+1<=N->
  ∃c5' M',I4 (λenv m k=>Ir (o9 KW fu (n+1)) fu none env m k) N (TV v1 v2 (.bool false) (iV (i:Int)) c4 c5 (.bool false)) M []=some [⟨.exit 0,(TV v1 v2 (.bool false) (iV (a.length:Int)) (.bool false) c5' (.bool false)),M',[],none⟩]∧Ext m M':=by
 have n1:=H8.len a2;have n2:=H8.len b2;have l1:=a1.slice.len;rw [n1] at l1;have hal:=fJ a;intro j;induction j with
 | zero=>
  intro i hi c4 c5 M N E hN;obtain⟨N,rfl⟩:∃k,N=k+1:=⟨N-1,by omega⟩;obtain rfl:i=a.length:=by omega
  refine⟨c5,M,?_,E⟩;rw [w9];simp [Ir,l1]
 | succ j ih=>
  intro i hi c4 c5 M N E hN;obtain⟨N,rfl⟩:∃k,N=k+1:=⟨N-1,by omega⟩;have hlt:i<a.length:=by omega
  have hltI:(i:Int)<(a.length:Int):=by omega
  have hM:=E.ok;have hLM:M.lim<=M.nx:=by rw [E.lim];exact Xl hl E.nx
  obtain⟨id1,o1,p1,p2,p3,p4,p5⟩:=(a1.slice.ext E).at (i:=i) (by omega);obtain⟨id2,o2,q1,q2,q3,q4,q5⟩:=(b1.slice.ext E).at (i:=i) (by omega);have r1:=H8.get a2 i hlt (by omega);have r2:=H8.get b2 i hlt (by omega);have p4':=p4 0 4 (by omega) (by omega);have q4':=q4 0 4 (by omega) (by omega);rw [Y3,aar (by omega),aay] at p4' q4';have hmo:∀r e,Q6 m (λ_=>True) e r->Q6 M (λ_=>True) e r:=λr e h=>Q6.mono E.nx (λi hi _=>E.old i hi) (λ_ _ h=>h) _ _ h;obtain⟨m2,g2,E2⟩:=acD h31 hM hLM (hmo _ _ r1) (hmo _ _ r2) (by have:=NG a i hlt;omega) (by have:=vF a i hlt;omega);obtain⟨c5',M',gg,E'⟩:=ih (i+1) (by omega) (.bool true) (.bool false) m2 N (E.trans E2) (by omega);refine⟨c5',M',?_,E'⟩;rw [w9,← gg];simp [Ir,l1,hlt,hltI,p1,p4',q1,q4',g2,Y9 (i:=i) (by omega)]
theorem acE (fu:Nat)(hfu:20000<=fu):∀r n:Nat,C31 KW (n+2*r+1) fu r:=by
 intro r;induction r with
 | zero=>
  intro n m v1 v2 a hm hl h1 h2 hk hp;obtain⟨rows1,a1,a2⟩:=h1;obtain⟨rows2,b1,b2⟩:=h2;have ha:a=[]:=by
   cases a with
   | nil=>rfl
   | cons e l=>cases e;simp [eP,CJ] at hk
  subst ha;have l1:=a1.slice.len;have l2:=b1.slice.len;rw [H8.len a2] at l1;rw [H8.len b2] at l2;refine⟨m,?_,Ext.refl hm⟩;obtain⟨fu,rfl⟩:∃k,fu=k+1:=⟨fu-1,by omega⟩;rw [enter (sf:=f31) rfl rfl];simp [f31,Ir,w9,p9,u7,z8 hm,G7 hm,O4 hm hl,H6 hm hl,K3 hm,H7 hm,K5,l1,l2]
 | succ r ih=>intro n m v1 v2 a hm hl h1 h2 hk hp;obtain⟨rows1,a1,a2⟩:=h1;obtain⟨rows2,b1,b2⟩:=h2;have l1:=a1.slice.len;have l2:=b1.slice.len;rw [H8.len a2] at l1;rw [H8.len b2] at l2;have hal:=fJ a;obtain⟨c5',M',g,E⟩:=Zd (n:=n+2*r+1) hfu (ih n) hm hl a a1 a2 b1 b2 (by omega) hp a.length 0 (by omega) .undef .undef m fu (Ext.refl hm) (by omega);have g':I4 (λenv m k=>Ir (o9 KW fu (n+2*r+2)) fu none env m k) fu (TV v1 v2 (.bool false) (iV 0) .undef .undef (.bool false)) m []=_:=g;refine⟨M',?_,E⟩;rw [show n+2*(r+1)+1=(n+2*r+2)+1 from by omega,enter (sf:=f31) rfl rfl];simp [f31,l1,l2,g']
theorem acF (n fu r:Nat)(hfu:20000<=fu)(hn:2*r+1<=n):C31 KW n fu r:=by
 have:=acE fu hfu r (n-(2*r+1))
 rwa [show n-(2*r+1)+2*r+1=n from by omega] at this
def C12 (K:Known)(n fu:Nat)(k:Nat):Prop:=∀(m:Mem) (v1 v2:j3) (a:List dO),m.Ok->m.lim<=m.nx->dS m (λ_=>True) a v1->dS m (λ_=>True) a v2->iQ a<=k->aN a<=10000->
 ∃m',o9 K fu n (.func 12) [v1,v2] m=some [⟨.bool true,m'⟩]∧Ext m m'
theorem NH:∀(l:List dO) (i:Nat) (h:i<l.length),Gn l[i]<=iQ l
 | e::l,0,h=>by simp [iQ];omega
 | e::l,i+1,h=>by have:=NH l i (by simpa using h);simp [iQ];omega
theorem Ze {n fu k:Nat}(hfu:20000<=fu)(h31:C31 KW n fu k)(h12:C12 KW n fu k){m:Mem}(hm:m.Ok)(hl:m.lim<=m.nx){v1 v2:j3}{rows1 rows2:List (List j3)}(a:List dO)(a1:pW m (λ_=>True) 5 v1 rows1)(a2:G8 m (λ_=>True) a rows1)(b1:pW m (λ_=>True) 5 v2 rows2)(b2:G8 m (λ_=>True) a rows2)(hk:iQ a<=k+1)(hp:aN a<=10000):
  ∀(j i:Nat),i+j=a.length->∀(c4 x5 x6 c7:j3) (M:Mem) (N:Nat),Ext m M->j+1<=N->
  ∃x5' x6' c7' M',I4 (λenv m k=>Im (o9 KW fu n) fu none env m k) N (KM v1 v2 (.bool false) (iV (i:Int)) c4 x5 x6 c7 (.bool false)) M []=some [⟨.exit 0,(KM v1 v2 (.bool false) (iV (a.length:Int)) (.bool false) x5' x6' c7' (.bool false)),M',[],none⟩]∧Ext m M':=by
 have n1:=G8.len a2;have n2:=G8.len b2;have l1:=a1.slice.len;rw [n1] at l1;have hal:=oI a;intro j;induction j with
 | zero=>
  intro i hi c4 x5 x6 c7 M N E hN;obtain⟨N,rfl⟩:∃k,N=k+1:=⟨N-1,by omega⟩;obtain rfl:i=a.length:=by omega
  refine⟨x5,x6,c7,M,?_,E⟩;rw [w9];simp [Im,l1]
 | succ j ih=>
  intro i hi c4 x5 x6 c7 M N E hN;obtain⟨N,rfl⟩:∃k,N=k+1:=⟨N-1,by omega⟩;have hlt:i<a.length:=by omega
  have hltI:(i:Int)<(a.length:Int):=by omega
  have hM:=E.ok;have hLM:M.lim<=M.nx:=by rw [E.lim];exact Xl hl E.nx
  obtain⟨id1,o1,p1,p2,p3,p4,p5⟩:=(a1.slice.ext E).at (i:=i) (by omega);obtain⟨id2,o2,q1,q2,q3,q4,q5⟩:=(b1.slice.ext E).at (i:=i) (by omega);have r1:=G8.get a2 i hlt (by omega);have r2:=G8.get b2 i hlt (by omega);have p4':=p4 0 5 (by omega) (by omega);have q4':=q4 0 5 (by omega) (by omega);rw [Y3,aar (by omega),aay] at p4' q4';have hmo:∀r e,iE m (λ_=>True) e r->iE M (λ_=>True) e r:=λr e h=>iE.mono E.nx (λi hi _=>E.old i hi) (λ_ _ h=>h) _ _ h;have t1:=hmo _ _ r1;have t2:=hmo _ _ r2;have hL:=NH a i hlt;have hP:=zL a i hlt;generalize a[i]=X at *;generalize hR1:rows1[i]=R1 at *;generalize hR2:rows2[i]=R2 at *;obtain⟨k0,s0,ae,at',af⟩:=X;obtain⟨ve1,vt1,vf1,re1,rt1,rf1,rfl,he1,he1',ht1,ht1',hf1,hf1'⟩:=t1;obtain⟨ve2,vt2,vf2,re2,rt2,rf2,rfl,he2,he2',ht2,ht2',hf2,hf2'⟩:=t2;rw [Gn] at hL;rw [stP] at hP;have E1:=y9 hM [j4 (r5 k0 s0 ve1 vt1 vf1),j4 (r5 k0 s0 ve2 vt2 vf2)];have hL1:(ext M [j4 (r5 k0 s0 ve1 vt1 vf1),j4 (r5 k0 s0 ve2 vt2 vf2)]).lim<=(ext M [j4 (r5 k0 s0 ve1 vt1 vf1),j4 (r5 k0 s0 ve2 vt2 vf2)]).nx:=by rw [E1.lim];exact Xl hLM E1.nx
  obtain⟨m2,g2,E2⟩:=h31 (ext M [j4 (r5 k0 s0 ve1 vt1 vf1),j4 (r5 k0 s0 ve2 vt2 vf2)]) ve1 ve2 ae E1.ok hL1 (pX.ext ⟨re1,he1,he1'⟩ E1) (pX.ext ⟨re2,he2,he2'⟩ E1) (by omega) (by omega);have hL2:m2.lim<=m2.nx:=by rw [E2.lim];exact Xl hL1 E2.nx
  have E12:=E1.trans E2;obtain⟨m3,g3,E3⟩:=h12 m2 vt1 vt2 at' E2.ok hL2 (dS.ext ⟨rt1,ht1,ht1'⟩ E12) (dS.ext ⟨rt2,ht2,ht2'⟩ E12) (by omega) (by omega);have hL3:m3.lim<=m3.nx:=by rw [E3.lim];exact Xl hL2 E3.nx
  have E13:=E12.trans E3;obtain⟨m4,g4,E4⟩:=h12 m3 vf1 vf2 af E3.ok hL3 (dS.ext ⟨rf1,hf1,hf1'⟩ E13) (dS.ext ⟨rf2,hf2,hf2'⟩ E13) (by omega) (by omega);obtain⟨x5',x6',c7',M',gg,E'⟩:=ih (i+1) (by omega) (.bool true) (.ptr M.nx 0) (.ptr (M.nx+1) 0) (.bool false) m4 N (E.trans (E13.trans E4)) (by omega);refine⟨x5',x6',c7',M',?_,E'⟩;obtain⟨y1,y2,y3,y4,y5,y6⟩:=bG hM hLM;have u:∀i,i<M.nx+2->m2.get i=(ext M [j4 (r5 k0 s0 ve1 vt1 vf1),j4 (r5 k0 s0 ve2 vt2 vf2)]).get i:=λi hi=>E2.old i (by simpa using hi);have u3:∀i,i<M.nx+2->m3.get i=(ext M [j4 (r5 k0 s0 ve1 vt1 vf1),j4 (r5 k0 s0 ve2 vt2 vf2)]).get i:=λi hi=>by rw [E3.old i (Xb (by simpa using hi) E2.nx),u i hi]
  have ua:=u M.nx (by omega);have ub:=u (M.nx+1) (by omega);have uc:=u3 M.nx (by omega);have ud:=u3 (M.nx+1) (by omega);rw [y1] at ua uc;rw [y2] at ub ud;have gid1:(ext M [j4 (r5 k0 s0 ve1 vt1 vf1)]).get id2=M.get id2:=U8 hM _ q2;have k1:=he1.slice.cells;have k2:=ht1.slice.cells;have k3:=hf1.slice.cells;have k4:=he2.slice.cells;have k5:=ht2.slice.cells;have k6:=hf2.slice.cells;have l1':=he1.slice.K5;have l2:=ht1.slice.K5;have l3:=hf1.slice.K5;have l4:=he2.slice.K5;have l5:=ht2.slice.K5;have l6:=hf2.slice.K5;rw [w9,← gg];simp [Im,p9,u7,y1,y2,y3,y4,y5,y6,l1,hlt,hltI,p1,p4',q1,q4',gid1,g2,g3,g4,ua,ub,uc,ud,k1,k2,k3,k4,k5,k6,l1',l2,l3,l4,l5,l6,Y9 (i:=i) (by omega)]
theorem acG (fu:Nat)(hfu:20000<=fu):∀r n:Nat,C12 KW (n+2*r+1) fu r:=by
 intro r;induction r with
 | zero=>
  intro n m v1 v2 a hm hl h1 h2 hk hp;obtain⟨rows1,a1,a2⟩:=h1;obtain⟨rows2,b1,b2⟩:=h2;have ha:a=[]:=by
   cases a with
   | nil=>rfl
   | cons e l=>cases e;simp [iQ,Gn] at hk
  subst ha;have l1:=a1.slice.len;have l2:=b1.slice.len;rw [G8.len a2] at l1;rw [G8.len b2] at l2;refine⟨m,?_,Ext.refl hm⟩;obtain⟨fu,rfl⟩:∃k,fu=k+1:=⟨fu-1,by omega⟩;rw [enter (sf:=f12) rfl rfl];simp [f12,Im,w9,p9,u7,z8 hm,G7 hm,O4 hm hl,H6 hm hl,K3 hm,H7 hm,K5,l1,l2]
 | succ r ih=>intro n m v1 v2 a hm hl h1 h2 hk hp;obtain⟨rows1,a1,a2⟩:=h1;obtain⟨rows2,b1,b2⟩:=h2;have l1:=a1.slice.len;have l2:=b1.slice.len;rw [G8.len a2] at l1;rw [G8.len b2] at l2;have hal:=oI a;have h12:=ih (n+1);rw [show n+1+2*r+1=n+2*r+2 from by omega] at h12;obtain⟨x5',x6',c7',M',g,E⟩:=Ze (n:=n+2*r+2) hfu (acF _ fu r hfu (by omega)) h12 hm hl a a1 a2 b1 b2 (by omega) hp a.length 0 (by omega) .undef .undef .undef .undef m fu (Ext.refl hm) (by omega);have g':I4 (λenv m k=>Im (o9 KW fu (n+2*r+2)) fu none env m k) fu (KM v1 v2 (.bool false) (iV 0) .undef .undef .undef .undef (.bool false)) m []=_:=g;refine⟨M',?_,E⟩;rw [show n+2*(r+1)+1=(n+2*r+2)+1 from by omega,enter (sf:=f12) rfl rfl];simp [f12,l1,l2,g']
theorem acH (n fu r:Nat)(hfu:20000<=fu)(hn:2*r+1<=n):C12 KW n fu r:=by
 have:=acG fu hfu r (n-(2*r+1))
 rwa [show n-(2*r+1)+2*r+1=n from by omega] at this
end Go.Proofs.YteecnooaopfkeaaGreatDoor.TT
