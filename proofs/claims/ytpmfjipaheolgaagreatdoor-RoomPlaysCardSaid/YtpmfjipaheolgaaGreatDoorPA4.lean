/- A part of an evaluator for the model, proved sound: what it answers holds of the model; it speaks of every program, no condition. -/
import Derived.Test.YtpmfjipaheolgaaGreatDoorPA3
import Derived.RecoverIn
set_option linter.all false
namespace Go.AM
open Go
open Nat (beq ble blt)
noncomputable section
variable {d i j t:Nat}{o:Oper}
section
variable {P:cH}{G:cD}{cr:cR}{nt:Nat}{cf:G6}{b:Nat}{cz:Array Oper}{ord:cR}{X:Nat->Nat×Inst}{S:Nat->DS}
structure aaH(b:Nat)(ord:cR)(X:Nat->Nat×Inst)(S:Nat->DS)(q:Nat)(L:Nat->Bool)(d:Nat):Prop where
 ok:T.Ok (dS b X S q L d).t (dS b X S q L d).nx
 nx:(dS b X S q L d).nx=(S q).m.nx
 lim:(dS b X S q L d).lim=(S q).m.lim
 later:∀p i blk,q+d<=p->p<ord.length->iM b X S p=some (i,blk)->(dS b X S q L d).get i=some .void
 from_:∀j y,(dS b X S q L d).get j=some y->(S q).m.get j=some y∨∃d',d'<d∧L (q+d')=true∧iM b X S (q+d')=some (j,y)
 laid:∀d' i blk,d'<d->L (q+d')=true->iM b X S (q+d')=some (i,blk)->(dS b X S q L d).get i=some blk
 sub:(S q).m.sub (dS b X S q L d)
def Fixed.Ih(F:Fixed P cr nt cf b cz ord X S){q p:Nat}(d:q=0∨K9 (X (q-1)).2=true)(e:q<=p)(hp:p<ord.length){a:Y9}(h:iM b X S p=some (i,a)):(S q).m.get i=some .void:=by let⟨r,c,_⟩:=F.gs d (p-q) Zs;rw[show q+(p-q)=p from by omega]at c;exact(F.made hp h).2.2.2.2 _ (O5 c)
def Fixed.lay(F:Fixed P cr nt cf b cz ord X S){q:Nat}(x:q=0∨K9 (X (q-1)).2=true)(s:T.Ok (S q).m.t (S q).m.nx)(L:Nat->Bool):∀d,q+d<=ord.length->aaH b ord X S q L d:=by
 intro d;induction d with
 |zero=>intro _;exact⟨s,rfl,rfl,λp i a l c f=>F.Ih x Zs c f,λj y h=>.inl h,λk i a h=>Zs,λi y h _=>h⟩
 |succ d ih=>
  intro z;have H:=ih Zs;cases hL:L (q+d)with
  |false=>
   have e:dS b X S q L (d+1)=dS b X S q L d:=by simp[dS,hL]
   refine⟨by rw[e];exact H.ok,by rw[e];exact H.nx,by rw[e];exact H.lim,λp i a l c f=>by rw[e];exact H.later p i a Zs c f,λj y h=>?_,λk i a l c f=>?_,by rw[e];exact H.sub⟩;rw[e]at h;rcases H.from_ j y h with h|⟨k,l,c⟩;exact .inl h;exact .inr ⟨k,Zs,c⟩;by_cases hd':k=d;subst hd';rw[hL]at c;cases c;rw[e];exact H.laid k i a Zs c f
  |true=>
   cases hm:iM b X S (q+d)with
   |none=>have e:dS b X S q L (d+1)=dS b X S q L d:=(by simp[dS,hL,hm]);refine⟨by rw[e];exact H.ok,by rw[e];exact H.nx,by rw[e];exact H.lim,λp i a l c f=>by rw[e];exact H.later p i a Zs c f,λj y h=>?_,λk i a l c f=>?_,by rw[e];exact H.sub⟩;rw[e]at h;rcases H.from_ j y h with h|⟨k,l,c⟩;exact .inl h;exact .inr ⟨k,Zs,c⟩;by_cases hd':k=d;subst hd';rw[hm]at f;cases f;rw[e];exact H.laid k i a Zs c f
   |some y=>let⟨u,blk0⟩:=y;have e:dS b X S q L (d+1)=(dS b X S q L d).set u blk0:=(by simp[dS,hL,hm]);have v:=H.later (q+d) u blk0 (aA _) Zs hm;have n:=cD.Q9 H.ok v;have g:=cD.R9 H.ok n blk0;refine⟨by rw[e];exact H.ok.put u blk0 n,by rw[e];exact H.nx,by rw[e];exact H.lim,λp i a l c f=>?_,λj y h=>?_,λk i a l c f=>?_,λi y h w=>?_⟩;have r:=F.MS (p:=q+d) (q:=p) Zs c hm f;rw[e,g,aE Zs];exact H.later p i a Zs c f;rw[e,g]at h;split at h;rename_i o;cases h;exact .inr ⟨d,Zs,hL,by rw[o];exact hm⟩;rcases H.from_ j y h with h|⟨k,l,c⟩;exact .inl h;exact .inr ⟨k,Zs,c⟩;by_cases hd':k=d;subst hd';rw[hm]at f;cases f;rw[e,g,cg rfl];have r:=F.MS (p:=q+k) (q:=q+d) Zs Zs f hm;rw[e,g,aE Zs];exact H.laid k i a Zs c f;have:=H.sub i y h w;rw[e,g,aE (λo=>by rw[o,v]at this;cases this;cases w)];exact this
def Fixed.DY(F:Fixed P cr nt cf b cz ord X S){q:Nat}(f:q=0∨K9 (X (q-1)).2=true)(a:T.Ok (S q).m.t (S q).m.nx){L L':Nat->Bool}{d':Nat}(l:d<=d')(e:q+d'<=ord.length)
   (i:∀k,k<d->L (q+k)=true->L' (q+k)=true)  (h:(dS b X S q L d).has j):(dS b X S q L' d').has j:=by
 let⟨y,g,c⟩:=h;have H:=F.lay f a L d Zs;have H':=F.lay f a L' d' e;rcases H.from_ j y g with h|⟨k,h3,h4,h5⟩;exact⟨y,H'.sub j y h c,c⟩;exact⟨y,H'.laid k j y Zs (i k h3 h4) h5,c⟩
def Fixed.lay_all(F:Fixed P cr nt cf b cz ord X S){q:Nat}{L:Nat->Bool}:∀d,q+d<=ord.length->(∀k,k<d->L (q+k)=true∧K9 (X (q+k)).2=false)->dS b X S q L d=(S (q+d)).m:=by
 intro d;induction d with
 |zero=>intro _ _;rfl
 |succ d ih=>
  intro j h;let⟨c,f⟩:=h d Zs;have e:=ih Zs λk l=>h k Zs;have g:=F.quiet (p:=q+d) Zs f;show(if L (q+d)then _ else _)=_;rw[c,cg rfl,show q+(d+1)=q+d+1 from rfl,g];cases iM b X S (q+d)with
  |none=>exact e
  |some y=>let⟨i,a⟩:=y;simp only[];rw[e]
def Lp(ord:cR)(listed:Array Bool)(p:Nat):Bool:=match ord[p]? with
 |some i=>listed.getD i false
 |none=>false
structure nV(P:cH)(G:cD)(b:Nat)(cz:Array Oper)(ord:cR)(X:Nat->Nat×Inst)(S:Nat->DS)(ι0:Q0)(m0:cD)(w0:cG)(a0:Act)(listed:Array Bool)(a:Act)(w:cG)(ι:Q0)(q:Nat):Prop where
 hq:q<=ord.length
 head:q=0∨K9 (X (q-1)).2=true
 low:∀p,p<q->Lp ord listed p=true
 high:∀p,q<=p->K9 (X p).2=true->Lp ord listed p=false
 base:Step P G ι0 m0 w0 ι (S q).m w
 ext:∀d i blk,Lp ord listed (q+d)=true->iM b X S (q+d)=some (i,blk)->iF P ι ((dS b X S q (Lp ord listed) (d+1)).nm ι) w.heap (ι i) blk∧jU blk=false∧
  (bN blk=true->(w0.heap.size<=(ι i).b∧(ι i).spot=none)∧(∀j y,(S q).m.get j=some y->bN y=true->(ι j).b≠(ι i).b)∧∀c e fz,w.heap[(ι i).b]?=some (.cells c e fz)->∀k,k<c.size->¬ (fz.1<=k∧k<fz.2))
 acV:∀d d' i i' blk blk',d≠d'->Lp ord listed (q+d)=true->Lp ord listed (q+d')=true->iM b X S (q+d)=some (i,blk)->iM b X S (q+d')=some (i',blk')->bN blk=true->bN blk'=true->(ι i').b≠(ι i).b
 vals:∀d,Lp ord listed (q+d)=true->(Aq S (q+d)).lt ((dS b X S q (Lp ord listed) (d+1)).nm ι)
 valsl:∀p,p<q->(Aq S p).lt ((S q).m.nm ι)
 tw:∀p i o t,ord[p]?=some i->listed.getD i false=true->cz[i]?=some o->o.dst=some t->a.tmps.getD t undef=u7 ι (Aq S p)
 tn:∀t,(∀i o,listed.getD i false=true->cz[i]?=some o->o.dst≠some t)->a.tmps.getD t undef=a0.tmps.getD t undef
 sz:a.tmps.size=a0.tmps.size
 defs:a.defers=a0.defers
 closed:OV cz listed
 len:listed.size=cz.size
variable {ι0 ι:Q0}{m0:cD}{w0 w:cG}{a0 a:Act}{listed:Array Bool}{q:Nat}
def nV.lay(F:Fixed P cr nt cf b cz ord X S)(hb:m0.lim<=b)(D:nV P G b cz ord X S ι0 m0 w0 a0 listed a w ι q):∀d,q+d<=ord.length->Step P G ι0 m0 w0 ι (dS b X S q (Lp ord listed) d) w:=by
 intro d;induction d with
 |zero=>intro _;exact D.base
 |succ d ih=>
  intro m;have H:=ih Zs;have LF:=F.lay D.head D.base.rm.ok (Lp ord listed) d Zs;cases hL:Lp ord listed (q+d)with
  |false=>
   have e:dS b X S q (Lp ord listed) (d+1)=dS b X S q (Lp ord listed) d:=by simp[dS,hL]
   rw[e];exact H
  |true=>
   cases hm:iM b X S (q+d)with
   |none=>have e:dS b X S q (Lp ord listed) (d+1)=dS b X S q (Lp ord listed) d:=(by simp[dS,hL,hm]);rw[e];exact H
   |some y=>let⟨i,blk⟩:=y;have e:dS b X S q (Lp ord listed) (d+1)=(dS b X S q (Lp ord listed) d).set i blk:=(by simp[dS,hL,hm]);let⟨k,l,g⟩:=D.ext d i blk hL hm;rw[e]at k ⊢;have n:=(F.made (p:=q+d) Zs hm).1;refine H.add (LF.later (q+d) i blk (aA _) Zs hm) (by rw[LF.lim,D.base.lim];omega) ⟨k,l,λc j y o h f=>?_,λc=>(g c).2.2,λc=>(g c).1.2⟩ λc=>(g c).1.1;rcases LF.from_ j y h with h|⟨d',h1,h2,h3⟩;exact(g c).2.1 j y h f;exact D.acV d d' i j blk y Zs hL h2 hm h3 c f
def vm(ord:cR)(S:Nat->DS)(listed:Array Bool)(p:Nat):j5:=if Lp ord listed p then Aq S p else .undef
def YK(ord:cR)(S:Nat->DS)(listed:Array Bool):Nat->cM
 |0=>[]
 |p+1=>vm ord S listed p::YK ord S listed p
def DZ(ord:cR)(X:Nat->Nat×Inst)(S:Nat->DS)(listed:Array Bool):Nat->T j5
 |0=>(S 0).env
 |p+1=>fA (X p).2.dst (vm ord S listed p) (DZ ord X S listed p)
def RJ(cz:Array Oper)(ord:cR)(S:Nat->DS)(listed:Array Bool)(ι:Q0)(a0:Act):Nat->Array Value
 |0=>a0.tmps
 |p+1=>match (ord[p]?).bind λi=>(cz[i]?).bind (·.dst)with
  |some t=>(RJ cz ord S listed ι a0 p).setIfInBounds t (u7 ι (vm ord S listed p))
  |none=>RJ cz ord S listed ι a0 p
def rR:∀p,(RJ cz ord S listed ι a0 p).size=a0.tmps.size
 |0=>rfl
 |p+1=>by simp only[RJ];split;simp[rR p];exact rR p
def RL(cz:Array Oper)(ord:cR)(p:Nat)(hp:p<ord.length):jN cz ord (p+1)=((ord[p]?).bind λi=>(cz[i]?).bind (·.dst))::jN cz ord p:=by unfold jN;rw[O7 hp,ajo,List.reverse_append,cB hp];rfl
def nV.st(F:Fixed P cr nt cf b cz ord X S)(hb:m0.lim<=b)(D:nV P G b cz ord X S ι0 m0 w0 a0 listed a w ι q)(m:dI ι0 (m0.nm ι0) cr (S 0).env a0.tmps)(r:nt<=a0.tmps.size)(d:Nat)(l:q+d<=ord.length):
   ∀p,p<=q+d->St P ι ((dS b X S q (Lp ord listed) d).nm ι) cr (jN cz ord p) (YK ord S listed p) (DZ ord X S listed p) (RJ cz ord S listed ι a0 p):=by
 have H:=D.lay F hb d l;intro p;induction p with
 |zero=>intro _;refine⟨λt k z=>by simp[jN,lC]at z,H.env m,H.rm.glob,H.rm.ghas⟩
 |succ p ih=>
  intro C;have s:=ih Zs;have g:p<ord.length:=Zs
  obtain⟨i,n⟩:∃i,ord[p]?=some i:=⟨ord[p],cB g⟩;let⟨o,u,_,f,_⟩:=F.inst p i n;have B:(vm ord S listed p).lt ((dS b X S q (Lp ord listed) d).nm ι):=by unfold vm;split;rename_i v;by_cases hpq:p<q;exact j5.aU (cD.dL (λj ⟨y,h1,h2⟩=>⟨y,(F.lay D.head D.base.rm.ok _ d l).sub j y h1 h2,h2⟩) λ_ _=>rfl) _ (D.valsl p hpq);have:=D.vals (p-q) (by rw[show q+(p-q)=p from by omega];exact v);rw[show q+(p-q)=p from by omega]at this;exact j5.aU (cD.dL (λj x=>F.DY D.head D.base.rm.ok Zs l (λ_ _ h=>h) x) λ_ _=>rfl) _ this;trivial
  have c:jN cz ord (p+1)=o.dst::jN cz ord p:=by rw[RL cz ord p g,n];simp[u]
  have:=s.put o.dst (λt A=>by rw[rR];exact aP (F.din i o t u A) r) B;rw[c];show St P ι _ cr _ (vm ord S listed p::YK ord S listed p) (fA (X p).2.dst (vm ord S listed p) (DZ ord X S listed p)) (RJ cz ord S listed ι a0 (p+1));rw[f];have e:RJ cz ord S listed ι a0 (p+1)=(match o.dst with|some t=>(RJ cz ord S listed ι a0 p).setIfInBounds t (u7 ι (vm ord S listed p))|none=>RJ cz ord S listed ι a0 p):=by simp only[RJ,n,agU,u]
  rw[e];exact this
def WU(S:Nat->DS):∀(p k:Nat),k<p->(YK ord S listed p)[k]?=some (vm ord S listed (p-1-k))
 |0,k,h=>Zs
 |p+1,0,_=>by simp[YK]
 |p+1,k+1,h=>by rw[YK,ajp,WU S p k Zs,show p+1-1-(k+1)=p-1-k from by omega]
def aaI(F:Fixed P cr nt cf b cz ord X S):∀p,p<=ord.length->(∀r,r<p->(X r).2.dst≠some j)->∀ls ls':cM,J6 (.slot j) ls (DZ ord X S listed p)=J6 (.slot j) ls' (S p).env:=by
 intro p;induction p with
 |zero=>intro _ _ ls ls';rfl
 |succ p ih=>intro c h ls ls';let⟨_,a⟩:=F.ls (p:=p) Zs;rw[a];show J6 (.slot j) ls (fA (X p).2.dst (vm ord S listed p) (DZ ord X S listed p))=_;rw[JE (h p Zs) _ ls ls,JE (h p Zs) _ ls' ls'];exact ih Zs (λr d=>h r Zs) ls ls'
def nV.opd(F:Fixed P cr nt cf b cz ord X S)(D:nV P G b cz ord X S ι0 m0 w0 a0 listed a w ι q){p:Nat}(hp:p<ord.length)(d:∀j,JH cz i j->listed.getD j false=true){y:aS}(h:RG cz ord X p i y):
   Sm id (S p).ls (S p).env (YK ord S listed p) (DZ ord X S listed p) y:=by
 show J6 y (YK ord S listed p) (DZ ord X S listed p)=J6 y (S p).ls (S p).env;cases y with
 |loc k=>
  let⟨j,e,f,g⟩:=h;rw[Ji,Ji,WU S p k e,(F.len p Zs).2 k e];have:Lp ord listed (p-1-k)=true:=by simp only[Lp,f];exact d j g
  simp[vm,this]
 |slot j=>exact aaI F p Zs h _ _
 |con c=>rfl
def zw:∀p,(∀r i o,r<p->ord[r]?=some i->cz[i]?=some o->o.dst≠some t)->(RJ cz ord S listed ι a0 p).getD t undef=a0.tmps.getD t undef:=by
 intro p;induction p with
 |zero=>intro _;rfl
 |succ p ih=>intro h;have:=ih λr i o g=>h r i o Zs;simp only[RJ];split;rename_i f a;let⟨i,c,a⟩:=avv.1 a;let⟨o,d,a⟩:=avv.1 a;have b:f≠t:=λe=>h p i o Zs c d (by rw[a,e]);rw[O6,P5 b,← O6];exact this;exact this
def JK(F:Fixed P cr nt cf b cz ord X S)(f:nt<=a0.tmps.size){r:Nat}(k:ord[r]?=some i)(g:cz[i]?=some o)(l:o.dst=some t):∀p,r<p->(RJ cz ord S listed ι a0 p).getD t undef=u7 ι (vm ord S listed r):=by
 intro p;induction p with
 |zero=>intro h;omega
 |succ p ih=>
  intro h;simp only[RJ];by_cases hrp:r=p;subst hrp;simp only[k,agU,g,l];rw[dY _ _ _ _ (by rw[rR];exact aP (F.din i o t g l) f),cg rfl];have:=ih Zs;split;rename_i m a;let⟨n,c,a⟩:=avv.1 a;let⟨q,j,a⟩:=avv.1 a;have d:m≠t:=λe=>by subst e;have:=F.dsts i n o q m g j l a;subst this;exact hrp ((akh (gB.1 k).1 F.nodup).1 (k.trans c.symm))
  rw[O6,P5 d,← O6];exact this;exact this
def nV.looks(F:Fixed P cr nt cf b cz ord X S)(I:nt<=a0.tmps.size)(D:nV P G b cz ord X S ι0 m0 w0 a0 listed a w ι q){p:Nat}(hp:ord[p]?=some i)(z:cz[i]?=some o)(B:listed.getD i false=false)
   (v:∀j,JH cz i j->listed.getD j false=true)  (N:t∈BP cz o):a.tmps.getD t undef=(RJ cz ord S listed ι a0 p).getD t undef:=by
 by_cases hw:∃j g,cz[j]?=some g∧g.dst=some t∧j≠i;let⟨j,g,m,c,x⟩:=hw;let⟨r,f⟩:=adi (F.all j (vo.1 m).1);have M:=(gB.1 hp).1;rcases F.looks i o t z N j g m x c with h|h;have L:=v j h;have A:r<p:=by rcases awR r p with u|u|u;exact u;subst u;rw[hp]at f;exact cj (rW f).symm x;exact cj (dep_before F h hp f) Zs
 rw[D.tw r j g t f L m c,JK F I f m c p A];simp[vm,Lp,f,L];have A:p<r:=dep_before F h f hp;have H:listed.getD j false=false:=by
  cases hl:listed.getD j false with
  |false=>rfl
  |true=>have:=h.listed D.closed (D.closed j · hl);rw[B]at this;cases this
 rw[D.tn t ?_,zw p ?_];intro K n s J k d e;have:=F.dsts j n g s t m d c e;subst this;have:K=r:=(akh (gB.1 k).1 F.nodup).1 (k.trans f.symm);omega;intro n s l d e;have:=F.dsts j n g s t m d c e;subst this;rw[H]at l;cases l;have y:∀j g,cz[j]?=some g->g.dst=some t->j=i:=λj g m c=>axB λE=>hw ⟨j,g,m,c,E⟩;rw[D.tn t ?_,zw p ?_];intro K n s J k d e;have:=y n s d e;subst this;have:K=p:=(akh (gB.1 k).1 F.nodup).1 (k.trans hp.symm);omega;intro n s l d e;have:=y n s d e;subst this;rw[B]at l;cases l
where
 dep_before {P:cH} {cr:cR} {nt:Nat} {cf:G6} {b:Nat} {cz:Array Oper} {ord:cR} {X:Nat->Nat×Inst} {S:Nat->DS} (F:Fixed P cr nt cf b cz ord X S) {i j:Nat} (h:JH cz i j):∀{p r:Nat},ord[p]?=some i->ord[r]?=some j->r<p:=by
  induction h with
  |@edge i o e z he hb=>intro p r hp f;let⟨q,u,C⟩:=F.edges p i o hp z e he hb;have:q=r:=(akh (gB.1 C).1 F.nodup).1 (C.trans f.symm);omega
  |@more i o e j z he hb _ ih=>intro p r hp f;let⟨q,u,C⟩:=F.edges p i o hp z e he hb;have:=ih C f;omega
end
section
variable {P:cH}{G:cD}{cr:cR}{nt:Nat}{cf:G6}{b:Nat}{cz:Array Oper}{ord:cR}{X:Nat->Nat×Inst}{S:Nat->DS}
variable {ι0 ι:Q0}{m0:cD}{w0 w:cG}{a0 a:Act}{listed:Array Bool}{q:Nat}
def Step.rename{m:cD}{o ι2:Q0}(a:Step P G ι0 m0 w0 o m w)(f:∀i,m.has i->ι2 i=o i):Step P G ι0 m0 w0 ι2 m w:=by
 have h:=a.rm;have q:(m.nm o).le (m.nm ι2):=cD.dL (λi k=>k) f;have d:∀i x,m.get i=some x->bN x=true->ι2 i=o i:=λi x g l=>f i (uU g l);refine⟨⟨h.ok,?_,?_,h.glim,h.limn,h.gle,h.base,h.ghas,λi k=>by rw[f i (h.ghas i k)];exact h.glob i k,λi x g l=>by rw[d i x g l];exact h.spot i x g l,h.gsz⟩,λi k=>(f i (a.has i k)).trans (a.ext i k),a.has,a.nx,a.lim,a.old,a.size,a.frame,?_,a.os,a.out,a.tape⟩;intro i x g;by_cases hv:jU x=true;cases x<;>first|trivial|cases hv
 rw[f i ⟨x,g,by simpa using hv⟩];exact(h.blk i x g).mono (n:=m.nm o) f q λ_=>rfl;intro i x k g l;have s:=h.own i x k g l;refine⟨λj y v t p=>?_,λc e u r=>?_⟩;rw[d i x g l,d j y t p];exact s.alone j y v t p;rw[d i x g l]at r;exact s.free c e u r;rintro b ⟨i,x,k,g,l,rfl⟩;rw[d i x g l];exact a.own _ ⟨i,x,k,g,l,rfl⟩
def Ec{p:Nat}(h:Lp ord listed p=true):p<ord.length:=by unfold Lp at h;split at h;rename_i i a;exact(gB.1 a).1;cases h
def pX{p:Nat}(hp:ord[p]?=some i):Lp ord listed p=listed.getD i false:=by simp[Lp,hp]
def nG(A:Array Bool)(i j:Nat)(hi:i<A.size):(A.setIfInBounds i true).getD j false=if j=i then true else A.getD j false:=by rw[O6,O6];by_cases h:i=j;subst h;rw[cg rfl,P8 hi];rfl;rw[aE (λe=>h e.symm),P5 h]
def UA(a:ord.Nodup){p:Nat}(hp:ord[p]?=some i)(hi:i<listed.size)(r:Nat):Lp ord (listed.setIfInBounds i true) r=if r=p then true else Lp ord listed r:=by
 by_cases hr:r=p;subst hr;rw[pX hp,nG _ _ _ hi,cg rfl,cg rfl];rw[aE hr];unfold Lp;cases hj:ord[r]? with
 |none=>rfl
 |some j=>show(listed.setIfInBounds i true).getD j false=_;rw[nG _ _ _ hi,aE];intro e;subst e;exact hr ((akh (gB.1 hj).1 a).1 (hj.trans hp.symm))
def nV.agE(F:Fixed P cr nt cf b cz ord X S)(u:nt<=a0.tmps.size)(D:nV P G b cz ord X S ι0 m0 w0 a0 listed a w ι q){p:Nat}(hp:ord[p]?=some i)(k:cz[i]?=some o){ι':Q0}
   (v:∀r,Lp ord listed r=true->u7 ι' (Aq S r)=u7 ι (Aq S r)):
   (∀r j o' t,ord[r]?=some j->(listed.setIfInBounds i true).getD j false=true->cz[j]?=some o'->o'.dst=some t->(a.put o.dst (u7 ι' (Aq S p))).tmps.getD t undef=u7 ι' (Aq S r))∧
   (∀t,(∀j o',(listed.setIfInBounds i true).getD j false=true->cz[j]?=some o'->o'.dst≠some t)->(a.put o.dst (u7 ι' (Aq S p))).tmps.getD t undef=a0.tmps.getD t undef)∧
   (a.put o.dst (u7 ι' (Aq S p))).tmps.size=a0.tmps.size∧(a.put o.dst (u7 ι' (Aq S p))).defers=a0.defers:=by
 have s:i<listed.size:=by rw[D.len];exact(vo.1 k).1
 refine⟨λr j o' t l f d m=>?_,λt h=>?_,by rw[kP];exact D.sz,by rw[(qL a o.dst _).2];exact D.defs⟩;rw[(qL a o.dst _).1];rw[nG _ _ _ s]at f;by_cases hji:j=i;subst hji;rw[k]at d;cases d;have:r=p:=(akh (gB.1 l).1 F.nodup).1 (l.trans hp.symm);subst this;rw[m];show(a.tmps.setIfInBounds t _).getD t undef=_;rw[dY _ _ _ _ (by rw[D.sz];exact aP (F.din _ o t k m) u),cg rfl];rw[aE hji]at f;have n:=D.tw r j o' t l f d m;rw[v r (by rw[pX l];exact f),← n];cases hd:o.dst with
 |none=>rfl
 |some t'=>have c:t'≠t:=λe=>hji (F.dsts j i o' o t d k m (by rw[hd,e]));show(a.tmps.setIfInBounds t' _).getD t undef=_;rw[O6,P5 c,← O6]
 rw[(qL a o.dst _).1];have g:=h i o (by rw[nG _ _ _ s,cg rfl]) k;have n:=D.tn t λj o' f d=>h j o' (by rw[nG _ _ _ s];split<;>simp_all) d
 rw[← n];cases hd:o.dst with
 |none=>rfl
 |some t'=>have c:t'≠t:=λe=>g (by rw[hd,e]);show(a.tmps.setIfInBounds t' _).getD t undef=_;rw[O6,P5 c,← O6]
def nV.closed'(D:nV P G b cz ord X S ι0 m0 w0 a0 listed a w ι q)(h:cz[i]?=some o)(l:∀e∈o.after,Region.binds .any e=true->listed.getD e.on false=true):
   OV cz (listed.setIfInBounds i true):=by
 have k:i<listed.size:=by rw[D.len];exact(vo.1 h).1
 intro j m d c e g f;rw[nG _ _ _ k]at d ⊢;by_cases hji:j=i;subst hji;rw[h]at c;cases c;rw[l e g f];split<;>rfl
 rw[aE hji]at d;rw[D.closed j m d c e g f];split<;>rfl
def nV.quiet(F:Fixed P cr nt cf b cz ord X S)(a4:nt<=a0.tmps.size)(D:nV P G b cz ord X S ι0 m0 w0 a0 listed a w ι q)(hp:ord[q+d]?=some i)(ho:cz[i]?=some o)(a6:listed.getD i false=false)
   (hr:∀e∈o.after,Region.binds .any e=true->listed.getD e.on false=true) (hE:K9 (X (q+d)).2=false) {ι':Q0} {w':cG} (H:Step P G ι (S q).m w ι' (S q).m w') (B:∀k,k<w.heap.size->w'.heap[k]?=w.heap[k]?)
   (a7:∀j,(∀blk,iM b X S (q+d)≠some (j,blk))->ι' j=ι j)
   (z:∀id blk,iM b X S (q+d)=some (id,blk)->iF P ι' ((dS b X S q (Lp ord (listed.setIfInBounds i true)) (d+1)).nm ι') w'.heap (ι' id) blk∧jU blk=false∧
    (bN blk=true->((ι' id).b=w.heap.size∧(ι' id).spot=none)∧∀c e fz,w'.heap[(ι' id).b]?=some (.cells c e fz)->∀k,k<c.size->¬ (fz.1<=k∧k<fz.2)))
   (hV:(Aq S (q+d)).lt ((dS b X S q (Lp ord (listed.setIfInBounds i true)) (d+1)).nm ι')):
   nV P G b cz ord X S ι0 m0 w0 a0 (listed.setIfInBounds i true) (a.put o.dst (u7 ι' (Aq S (q+d)))) w' ι' q:=by
 have hi:i<listed.size:=by rw[D.len];exact(vo.1 ho).1
 have a2:q+d<ord.length:=(gB.1 hp).1;have N:=UA (listed:=listed) F.nodup hp hi;have u:∀r,Lp ord listed r=true->Lp ord (listed.setIfInBounds i true) r=true:=λr s=>by rw[N];split<;>simp[s]
 have a3:Lp ord listed (q+d)=false:=by rw[pX hp];exact a6
 have l:∀f,q+f<=ord.length->∀j,(dS b X S q (Lp ord listed) f).has j->ι' j=ι j:=by intro f K j C;refine a7 j λblk I=>?_;let⟨y,h1,h2⟩:=C;have hv:=F.Ih D.head (Nat.le_add_right q d) a2 I;rcases(F.lay D.head D.base.rm.ok (Lp ord listed) f K).from_ j y h1 with h|⟨d3,h3,h4,h5⟩;rw[hv]at h;cases h;cases h2;rcases awR d d3 with h6|h6|h6;have:=F.MS (p:=q+d) (q:=q+d3) Zs (Ec h4) I h5;omega;subst h6;rw[a3]at h4;cases h4;have:=F.MS (p:=q+d3) (q:=q+d) Zs a2 h5 I;omega
 have a1:∀f,q+f<=ord.length->((dS b X S q (Lp ord listed) f).nm ι).le ((dS b X S q (Lp ord (listed.setIfInBounds i true)) f).nm ι'):=λf K=>cD.dL (λj C=>F.DY D.head D.base.rm.ok (aA _) K (λk _ h=>u _ h) C) (l f K);have v:∀f id blk,f≠d->Lp ord listed (q+f)=true->iM b X S (q+f)=some (id,blk)->ι' id=ι id∧(bN blk=true->(ι id).b<w.heap.size):=by intro f id blk x s I;have hl:=Ec s;let⟨g1,g2,_⟩:=D.ext f id blk s I;refine⟨l (f+1) Zs id ⟨blk,(F.lay D.head D.base.rm.ok _ (f+1) Zs).laid f id blk Zs s I,g2⟩,λg=>iG g1 g⟩
 have x:∀f,Lp ord (listed.setIfInBounds i true) (q+f)=true->f≠d->Lp ord listed (q+f)=true:=λf h O=>by rw[N,aE Zs]at h;exact h
 have V:∀r,Lp ord listed r=true->u7 ι' (Aq S r)=u7 ι (Aq S r):=by intro r s;have hl:=Ec s;by_cases hrq:r<q;exact aZ (n:=(S q).m.nm ι) H.ext _ (D.valsl r hrq);have:=D.vals (r-q) (by rw[show q+(r-q)=r from by omega];exact s);rw[show q+(r-q)=r from by omega]at this;exact aZ (n:=(dS b X S q (Lp ord listed) (r-q+1)).nm ι) (l _ Zs) _ this
 let⟨t1,t2,t3,t4⟩:=D.agE F a4 hp ho V;refine⟨D.hq,D.head,λp U=>u p (D.low p U),λp a5 he=>?_,D.base.trans H,?_,?_,?_,λp U=>?_,t1,t2,t3,t4,D.closed' ho hr,by simpa using D.len⟩;rw[N,aE (λe=>by rw[e,hE]at he;cases he)];exact D.high p a5 he;intro f id blk s I;by_cases O:f=d;subst O;let⟨g1,g2,M⟩:=z id blk I;refine⟨g1,g2,λg=>⟨⟨by rw[(M g).1.1];exact D.base.size,(M g).1.2⟩,λj y C E=>?_,(M g).2⟩⟩;rw[(M g).1.1,H.ext j (uU C E)];have:=iG (D.base.rm.blk j y C) E;omega;have s:=x f s O;have hl:=Ec s;let⟨g1,g2,M⟩:=D.ext f id blk s I;let⟨Y,Z⟩:=v f id blk O s I;rw[Y];refine⟨g1.mono (l _ Zs) (a1 _ Zs) λg=>B _ (Z g),g2,λg=>⟨(M g).1,λj y C E=>?_,λc e fz hc=>?_⟩⟩;rw[H.ext j (uU C E)];exact(M g).2.1 j y C E;rw[B _ (Z g)]at hc;exact(M g).2.2 c e fz hc;intro d1 W i1 i2 b1 b2 A J t T L Q R;by_cases h1:d1=d;subst h1;have t:=x W t (λe=>A e.symm);let⟨Y,Z⟩:=v W i2 b2 (λe=>A e.symm) t L;rw[((z i1 b1 T).2.2 Q).1.1,Y];have:=Z R;omega;have J:=x d1 J h1;let⟨Y,Z⟩:=v d1 i1 b1 h1 J T;by_cases h2:W=d;subst h2;rw[((z i2 b2 L).2.2 R).1.1,Y];have:=Z Q;omega;have t:=x W t h2;rw[Y,(v W i2 b2 h2 t L).1];exact D.acV d1 W i1 i2 b1 b2 A J t T L Q R;intro f s;by_cases O:f=d;subst O;exact hV;have s:=x f s O;exact j5.aU (a1 _ (by have:=Ec s;omega)) _ (D.vals f s);exact j5.aU (cD.dL (λj C=>C) H.ext) _ (D.valsl p U)
def nV.effect(F:Fixed P cr nt cf b cz ord X S)(hb:m0.lim<=b)(ag:nt<=a0.tmps.size)(D:nV P G b cz ord X S ι0 m0 w0 a0 listed a w ι q)(hp:ord[q+d]?=some i)(ho:cz[i]?=some o)(aj:listed.getD i false=false)
   (hr:∀e∈o.after,Region.binds .any e=true->listed.getD e.on false=true) (hE:K9 (X (q+d)).2=true) (J:∀k,k<d->Lp ord listed (q+k)=true) {ι':Q0} {w':cG} (I:Step P G ι (S (q+d)).m w ι' (S (q+d+1)).m w')
   (hV:(Aq S (q+d)).lt ((S (q+d+1)).m.nm ι')):
   ∃ι'',u7 ι'' (Aq S (q+d))=u7 ι' (Aq S (q+d))∧nV P G b cz ord X S ι0 m0 w0 a0 (listed.setIfInBounds i true) (a.put o.dst (u7 ι'' (Aq S (q+d)))) w' ι'' (q+d+1):=by
 have hi:i<listed.size:=by rw[D.len];exact(vo.1 ho).1
 have ah:q+d<ord.length:=(gB.1 hp).1;have Z:=UA (listed:=listed) F.nodup hp hi;have Y:∀r,Lp ord listed r=true->Lp ord (listed.setIfInBounds i true) r=true:=λr v=>by rw[Z];split<;>simp[v]
 have ac:Lp ord listed (q+d)=false:=by rw[pX hp];exact aj
 have aa:∀k,k<d->K9 (X (q+k)).2=false:=λk hk=>by
  cases he:K9 (X (q+k)).2 with
  |false=>rfl
  |true=>have C:=D.high (q+k) Zs he;rw[J k hk]at C;cases C
 have T:=F.lay_all (L:=Lp ord listed) d Zs λk hk=>⟨J k hk,aa k hk⟩;have O:=D.lay F hb d Zs;rw[T]at O;have LFd:=F.lay D.head D.base.rm.ok (Lp ord listed) d Zs;have Lsub:=LFd.sub;have Llaid:=LFd.laid;have Lfrom:=LFd.from_;rw[T]at Lsub Llaid Lfrom;have al:iM b X S (q+d)=none:=by
  cases hm:iM b X S (q+d)with
  |none=>rfl
  |some y=>let⟨j,f⟩:=y;let⟨_,⟨o',C,_⟩,_⟩:=F.made ah hm;simp[K9,C]at hE
 let E:Nat->Prop:=λk=>∃p f,q+d<p∧Lp ord listed p=true∧iM b X S p=some (k,f)
 have x:q+d+1=0∨K9 (X (q+d+1-1)).2=true:=.inr (by rw[axk];exact hE);have a7:∀k,E k->(S (q+d+1)).m.get k=some .void:=by rintro k ⟨p,f,C,B,h3⟩;exact F.Ih x Zs (Ec B) h3
 classical
 let ι'':Q0:=λk=>if E k then ι k else ι' k
 have U:∀k,E k->ι'' k=ι k:=λk hk=>cg hk;have N:∀k,(S (q+d+1)).m.has k->ι'' k=ι' k:=λk ⟨y,C,B⟩=>aE λhk=>by rw[a7 k hk]at C;cases C;cases B
 have a2:Step P G ι0 m0 w0 ι'' (S (q+d+1)).m w':=(O.trans I).rename N;have A:Step P G ι (S (q+d)).m w ι'' (S (q+d+1)).m w':=I.rename N;have ab:=a2.rm.ok;have hc:=aZ (n:=(S (q+d+1)).m.nm ι') (ι:=ι') (ι':=ι'') N _ hV;have g:∀d',q+d'<=ord.length->∀j,(dS b X S q (Lp ord listed) d').has j->ι'' j=ι j∧((S (q+d+1)).m.has j∨∃p f,q+d<p∧p<q+d'∧Lp ord listed p=true∧iM b X S p=some (j,f)∧jU f=false):=by intro d' ad j ⟨y,C,B⟩;have a3:(S (q+d)).m.has j->ι'' j=ι j∧(S (q+d+1)).m.has j:=λs=>⟨A.ext j s,A.has j s⟩;rcases(F.lay D.head D.base.rm.ok (Lp ord listed) d' ad).from_ j y C with h|⟨d3,h3,h4,h5⟩;let⟨e1,e2⟩:=a3 ⟨y,Lsub j y h B,B⟩;exact⟨e1,.inl e2⟩;rcases awR d3 d with h6|h6|h6;let⟨e1,e2⟩:=a3 ⟨y,Llaid d3 j y h6 h4 h5,B⟩;exact⟨e1,.inl e2⟩;subst h6;rw[ac]at h4;cases h4;exact⟨U j ⟨q+d3,y,Zs,h4,h5⟩,.inr ⟨q+d3,y,Zs,Zs,h4,h5,B⟩⟩
 have a9:∀u l,q+u=q+d+1+l->q+u<=ord.length->((dS b X S q (Lp ord listed) u).nm ι).le ((dS b X S (q+d+1) (Lp ord (listed.setIfInBounds i true)) l).nm ι''):=by intro u l hd Q;refine cD.dL (λj s=>?_) λj s=>(g u Q j s).1;have LF':=F.lay x ab (Lp ord (listed.setIfInBounds i true)) l Zs;rcases(g u Q j s).2 with⟨y,C,B⟩|⟨p,f,C,B,h3,h4,h5⟩;exact⟨y,LF'.sub j y C B,B⟩;refine⟨f,LF'.laid (p-(q+d+1)) j f Zs (by rw[show q+d+1+(p-(q+d+1))=p from by omega];exact Y p h3) (by rw[show q+d+1+(p-(q+d+1))=p from by omega];exact h4),h5⟩
 have M:∀l,Lp ord (listed.setIfInBounds i true) (q+d+1+l)=true->Lp ord listed (q+(d+1+l))=true:=λl h=>by rw[Z,aE Zs]at h;rw[show q+(d+1+l)=q+d+1+l from by omega];exact h
 have H:∀u id f,d<u->Lp ord listed (q+u)=true->iM b X S (q+u)=some (id,f)->bN f=true->(ι id).b<w.heap.size∧∀j y,(S (q+d)).m.get j=some y->bN y=true->(ι j).b≠(ι id).b:=by intro u id f Q v hm t;let⟨g1,g2,g3⟩:=D.ext u id f v hm;refine⟨iG g1 t,λj y s z=>?_⟩;rcases Lfrom j y s with h|⟨d3,h3,h4,h5⟩;exact(g3 t).2.1 j y h z;exact D.acV u d3 id j f y Zs v h4 hm h5 t z
 have K:∀u id f,d<u->Lp ord listed (q+u)=true->iM b X S (q+u)=some (id,f)->bN f=true->w'.heap[(ι id).b]?=w.heap[(ι id).b]?:=by intro u id f Q v hm t;let⟨g1,g2⟩:=H u id f Q v hm t;exact I.frame _ g1 λ⟨j,y,_,s,z,e⟩=>g2 j y s z e
 have a6:∀r,Lp ord listed r=true->u7 ι'' (Aq S r)=u7 ι (Aq S r):=by intro r v;have hl:=Ec v;by_cases hrq:r<q;have C:=D.valsl r hrq;exact aZ (n:=(S q).m.nm ι) (λj s=>(g 0 Zs j s).1) _ C;have:=D.vals (r-q) (by rw[show q+(r-q)=r from by omega];exact v);rw[show q+(r-q)=r from by omega]at this;exact aZ (n:=(dS b X S q (Lp ord listed) (r-q+1)).nm ι) (λj s=>(g _ Zs j s).1) _ this
 let⟨t1,t2,t3,t4⟩:=D.agE F ag hp ho a6;refine⟨ι'',hc,Zs,x,λp ai=>?_,λp am he=>?_,a2,?_,?_,?_,λp ai=>?_,t1,t2,t3,t4,D.closed' ho hr,by simpa using D.len⟩;rw[Z];split;rfl;by_cases h:p<q;exact D.low p h;have:=J (p-q) Zs
 rwa [show q+(p-q)=p from by omega]at this
 rw[Z,aE Zs];exact D.high p Zs he;intro l id f v hm;have v:=M l v;have R:iM b X S (q+(d+1+l))=some (id,f):=by rw[show q+(d+1+l)=q+d+1+l from by omega];exact hm
 have hl:=Ec v;let⟨g1,g2,g3⟩:=D.ext (d+1+l) id f v R;have e1:ι'' id=ι id:=U id ⟨q+(d+1+l),f,Zs,v,R⟩;rw[e1];refine⟨g1.mono (λj s=>(g _ Zs j s).1) (a9 (d+1+l+1) (l+1) Zs Zs) λt=>K _ id f Zs v R t,g2,λt=>⟨(g3 t).1,λj y s z=>?_,λc e fz a8=>?_⟩⟩;let⟨n1,n2⟩:=H (d+1+l) id f Zs v R t;rw[N j (uU s z)];by_cases hjl:(S (q+d)).m.lim<=j;rcases I.own _ ⟨j,y,by rw[I.lim];exact hjl,s,z,rfl⟩with⟨j',y',_,a1,hly',e⟩|h;rw[← e];exact n2 j' y' a1 hly';omega;have a1:(S (q+d)).m.get j=some y:=by rw[← I.old j Zs];exact s
 rw[I.ext j (uU a1 z)];exact n2 j y a1 z;rw[K _ id f Zs v R t]at a8;exact(g3 t).2.2 c e fz a8;intro u l i1 i2 b1 b2 ak V W a4 a5 ae af;have V:=M u V;have W:=M l W;rw[show q+d+1+u=q+(d+1+u)from by omega]at a4;rw[show q+d+1+l=q+(d+1+l)from by omega]at a5;rw[U i1 ⟨_,b1,Zs,V,a4⟩,U i2 ⟨_,b2,Zs,W,a5⟩];exact D.acV (d+1+u) (d+1+l) i1 i2 b1 b2 Zs V W a4 a5 ae af;intro l v;have v:=M l v;have hl:=Ec v;have:=D.vals (d+1+l) v;rw[show q+(d+1+l)=q+d+1+l from by omega]at this;exact j5.aU (a9 (d+1+l+1) (l+1) Zs Zs) _ this;by_cases h:p=q+d;subst h;exact j5.aU (cD.dL (λj s=>s) N) _ hV;by_cases hpq':p<q;refine j5.aU (cD.dL (λj ⟨y,C,B⟩=>?_) λj s=>(g 0 Zs j s).1) _ (D.valsl p hpq');exact A.has j ⟨y,Lsub j y C B,B⟩;have:=D.vals (p-q) (by have:=J (p-q) Zs;exact this);rw[show q+(p-q)=p from by omega]at this;refine j5.aU (cD.dL (λj s=>?_) λj s=>(g _ Zs j s).1) _ this;have B:=F.DY D.head D.base.rm.ok (L:=Lp ord listed) (L':=Lp ord listed) (d:=p-q+1) (d':=d) Zs Zs (λ_ _ h=>h) s;rw[T]at B;exact A.has j B
end
variable {B:Array Value}
section
variable {P:cH}{G:cD}{cr:cR}{nt:Nat}{cf:G6}{b:Nat}{cz:Array Oper}{ord:cR}{X:Nat->Nat×Inst}{S:Nat->DS}
variable {ι0 ι:Q0}{m0:cD}{w0 w:cG}{a0 a:Act}{listed:Array Bool}{q:Nat}
def Fy{A:Array Value}(hs:A.size=B.size)(h:A.getD t undef=B.getD t undef):A[t]?=B[t]?:=by
 by_cases ht:t<A.size;have a:t<B.size:=Zs
 rw[ado ht,ado a];simp only[Array.getD,ht,a,dif_pos]at h;rw[show A.getInternal t ht=A[t]from rfl,show B.getInternal t a=B[t]from rfl]at h;rw[h];rw[avK (avV ht),avK Zs]
def MU{a a':Act}(h:∀t∈BP cz o,a.tmps.getD t undef=a'.tmps.getD t undef):∀x∈o.op.operands,a.eval x=a'.eval x:=by
 intro x b;cases x with
 |tmp t=>exact h t (aqx _ (List.mem_filterMap.2 ⟨.tmp t,by simpa using b,rfl⟩))
 |_=>rfl
def GI{A:Array Value}(hs:A.size=B.size)(h:∀t∈BP cz o,A.getD t undef=B.getD t undef):Region.wanted o (yielded cz A)=Region.wanted o (yielded cz B):=by
 unfold Region.wanted;cases hg:o.guard with
 |none=>rfl
 |some p=>
  let⟨g,a⟩:=p;have:yielded cz A g=yielded cz B g:=by
   unfold yielded;cases ht:(cz[g]?).bind (·.dst)with
   |none=>rfl
   |some t=>have:=Fy hs (h t (atd _ (by simp[hg,ht])));simp[this]
  simp only[this]
def adJ(o:POp):oz id o=o:=by cases o<;>simp[oz]
def adK(o:TN):LB id o=o:=by cases o<;>simp[LB]
def adL(o:Yf):QG id o=o:=by cases o<;>simp[QG]
def adM(o:ZR):EX id o=o:=by cases o<;>simp[EX]
def lY{b:Op}{a:List (Option Nat)}{c:Db}(h:jT P cr a b=some c):∀cs bl,b≠.select cs bl:=by rintro cs bl rfl;cases h
def atj{ls b:cM}{env a:T j5}{o:POp}(h:∀x∈jY o,Sm id ls env b a x):qW o b a=qW o ls env:=by have:=MK h;rwa [adJ]at this
def atl{ls b:cM}{env a:T j5}{o:TN}(h:∀x∈IE o,Sm id ls env b a x)(m:cD):xX o b a m=xX o ls env m:=by have:=ML h m;rwa [adK]at this
def atm{ls b:cM}{env a:T j5}{o:Yf}(h:∀x∈opsL o,Sm id ls env b a x)(i:Nat):Gr o b a i=Gr o ls env i:=by have:=MN h i;rwa [adL]at this
def aku{ls b:cM}{env a:T j5}{o:ZR}(h:∀x∈opsE o,Sm id ls env b a x)(cf:G6)(m:cD):xD o cf b a m=xD o cf ls env m:=by have:=MO h cf m;rwa [adM]at this
def GJ{a a':Act}(h:execOp a.eval o=execOp a'.eval o){w:cG}{R:Ending->cG->Prop}(b:nZ P a'.eval o w R):nZ P a.eval o w R:=by unfold nZ at *;rw[h];exact b
def YL{M:Nat}(F:Fixed P cr nt cf b cz ord X S)(d:M<=ord.length)(a:∀p,p<M->Lp ord listed p=true):∀p,p<=M->DZ ord X S listed p=(S p).env:=by
 intro p;induction p with
 |zero=>intro _;rfl
 |succ p ih=>intro e;let⟨_,c⟩:=F.ls (p:=p) Zs;rw[c,← ih Zs];show fA (X p).2.dst (vm ord S listed p) _=_;simp[vm,a p Zs]
def nV.aL{r:Option Nat}(ai:uD P G cf)(F:Fixed P cr nt cf b cz ord X S)(hb:m0.lim<=b)(al:dI ι0 (m0.nm ι0) cr (S 0).env a0.tmps)(a1:nt<=a0.tmps.size)(D:nV P G b cz ord X S ι0 m0 w0 a0 listed a w ι q)
   {N:Nat}  {eo:ZR} {y:j5} {m':cD} (hp:ord[N]?=some i) (ho:cz[i]?=some o) (a3:listed.getD i false=false) (hr:∀e∈o.after,Region.binds .any e=true->listed.getD e.on false=true)
   (hx:(X N).2.op=.e eo) (g:Om (X N).2.guard (xD eo) cf (S N).ls (S N).env (S N).m=some [⟨.aL y,m'⟩]) (ak:∀p,N<p->p<ord.length->(X p).2.dst=none) {K:Act->cG->Prop} {Q:Exit->Act->cG->Prop}
   (hQ:∀ι' w',Step P G ι0 m0 w0 ι' m' w'->y.lt (m'.nm ι')->dI ι' (m'.nm ι') cr (S N).env a.tmps->Q (.panic [{v:=u7 ι' y,recovered:=false}]) a w'):wpOpIn (FR r) 0 P cz Q i K a w:=by
 have hi:i<listed.size:=by rw[D.len];exact(vo.1 ho).1
 have a2:N<ord.length:=(gB.1 hp).1;have au:q<=N:=by rcases asW N q with h|h;have:=D.low N h;rw[pX hp,a3]at this;cases this;exact h
 obtain⟨d,rfl⟩:∃d,N=q+d:=⟨N-q,Zs⟩;have B:∀j,JH cz i j->listed.getD j false=true:=λj V=>V.listed D.closed λo' M e U a5=>by rw[ho]at M;cases M;exact hr e U a5
 let⟨o',M,ap,ar,hg⟩:=F.inst (q+d) i hp;rw[ho]at M;cases M;have s:=D.st F hb al a1 d Zs (q+d) (aA _);let af:Act:={tmps:=RJ cz ord S listed ι a0 (q+d),defers:=[]}
 have I:∀t∈BP cz o,a.tmps.getD t undef=af.tmps.getD t undef:=λt ht=>D.looks F a1 hp ho a3 B ht;have ae:a.tmps.size=af.tmps.size:=by rw[D.sz];exact rR _ |>.symm
 have a4:=GI ae I;have aq:=qZ (tmps:=af.tmps) s hg;have am:(∀cs bl,o.op≠.select cs bl)->execOp a.eval o=execOp af.eval o:=λhs=>execOp_congr o hs (MU I);have ad:∀y∈IG (X (q+d)).2.op,Sm id (S (q+d)).ls (S (q+d)).env (YK ord S listed (q+d)) (DZ ord X S listed (q+d)) y:=λy hy=>D.opd F a2 B (F.opd _ i hp y hy);have f:=D.lay F hb d Zs;have T:∀y R,(X (q+d)).2.guard=some (y,R)->J6 y (YK ord S listed (q+d)) (DZ ord X S listed (q+d))=J6 y (S (q+d)).ls (S (q+d)).env:=λy R h=>D.opd F a2 B (F.opdg _ i y R hp h);have O:Region.wanted o (yielded cz a.tmps)=xP (X (q+d)).2.guard (S (q+d)).ls (S (q+d)).env:=by
  rw[a4,aq];cases hgd:(X (q+d)).2.guard with
  |none=>rfl
  |some z=>let⟨y,R⟩:=z;simp only[xP];rw[T y R hgd]
 have a6:∀{ao},(X (q+d)).2.op=ao->ao≠.e .bad->jT P cr (jN cz ord (q+d)) o.op=some ao:=by intro ao g h2;rw[ap]at g;unfold rJ at g;split at g;rename_i a' ha;rw[ha,g];exact cj g.symm h2
 have hE:K9 (X (q+d)).2=true:=by simp[K9,hx]
 have C:∀k,k<d->Lp ord listed (q+k)=true:=λk hk=>by
  have a9:q+k<ord.length:=Zs
  have:=B _ (F.eff (q+d) i hp hE (q+k) _ Zs (cB a9));rw[pX (cB a9)];exact this
 have ab:∀k,k<d->K9 (X (q+k)).2=false:=λk hk=>by
  cases U:K9 (X (q+k)).2 with
  |false=>rfl
  |true=>have g:=D.high (q+k) Zs U;rw[C k hk]at g;cases g
 have aa:=F.lay_all (L:=Lp ord listed) d Zs λk hk=>⟨C k hk,ab k hk⟩;rw[aa]at s f;have J:∀p,p<q+d->Lp ord listed p=true:=λp h=>by
  by_cases hpq:p<q;exact D.low p hpq;have:=C (p-q) Zs
  rwa [show q+(p-q)=p from by omega]at this
 have a7:dI ι ((S (q+d)).m.nm ι) cr (S (q+d)).env a.tmps:=by
  have U:=s.env;rw[YL F (aki a2) J (q+d) (aA _)]at U;refine⟨U.ok,U.small,λt j ht=>?_⟩;let⟨g1,v,g2,g3,g4⟩:=U.val t j ht;refine⟨by rw[ae];exact g1,v,g2,g3,?_⟩;rw[← g4];by_cases hw:∃(W:Nat) (oj:Oper),cz[W]?=some oj∧oj.dst=some t;let⟨W,oj,V,H⟩:=hw;let⟨p',n⟩:=adi (F.all W (vo.1 V).1);have ac:=(gB.1 n).1;by_cases hlt:p'<q+d;have hL:=J p' hlt;rw[pX n]at hL;rw[D.tw p' W oj t n hL V H,JK F a1 n V H (q+d) hlt];have ah:=J p' hlt;simp[vm,ah];by_cases heq:p'=q+d;subst heq;obtain rfl:W=i:=rW (n.symm.trans hp);have e1:=D.tn t λY Z (hl2:listed.getD Y false=true) l A=>by obtain rfl:=F.dsts Y W Z oj t l V A H;rw[a3]at hl2;cases hl2
  have e2:=zw (cz:=cz) (ord:=ord) (S:=S) (listed:=listed) (ι:=ι) (a0:=a0) (t:=t) (q+d) λr2 Y Z av a8 l A=>by obtain rfl:=F.dsts Y W Z oj t l V A H;have:=(akh (gB.1 a8).1 F.nodup).1 (a8.trans n.symm);omega
  rw[e1,e2];exfalso;have E:=ak p' Zs ac;let⟨Z,l,_,aj,_⟩:=F.inst p' W n;rw[V]at l;cases l;rw[aj,H]at E;have E:idxOf t cr 0=none:=E;rw[ht]at E;cases E;rw[D.tn t λY Z _ l A=>hw ⟨Y,Z,l,A⟩,zw (q+d) λr2 Y Z _ _ l A=>hw ⟨Y,Z,l,A⟩]
 show wpOpIn (FR r) 0 P cz Q i K a w;unfold wpOpIn;simp only[ho];rw[O];have ag:xD eo cf (S (q+d)).ls (S (q+d)).env (S (q+d)).m=some [⟨.aL y,m'⟩]->o.wpIn (FR r) 0 P a w K Q:=by
  intro g;have an:Db.e eo≠.e .bad:=by intro h;cases h;cases g
  have hc:=a6 hx an;rw[hx]at ad;rw[← aku ad]at g;have:=Fv (a:=af) ai s f.rm hc g o rfl;refine qN (JD (cf:=cf) hc g) (GJ (am (lY hc)) this) ?_ ?_ λ_=>uE;rintro u w' (⟨_,hu,x,hxm,ι',g1,g2,rfl⟩|⟨_,_,_,_,_,_,_,h⟩);obtain rfl:=lM.1 hxm;exact g2.elim;cases h;rintro c w' (⟨_,hu,_⟩|⟨x,hxm,y',ι',hxy,g1,g2,g3⟩);cases hu;obtain rfl:=lM.1 hxm;cases hxy;cases g3;exact hQ ι' w' (f.trans g1) g2 (g1.env a7)
 cases hgd:(X (q+d)).2.guard with
 |none=>rw[hgd]at g;exact ag g
 |some z=>
  let⟨y',R⟩:=z;rw[hgd]at g;have g:bi (sJ R (J6 y' (S (q+d)).ls (S (q+d)).env)) (xD eo cf (S (q+d)).ls (S (q+d)).env (S (q+d)).m) (one .undef (S (q+d)).m)=some [⟨.aL y,m'⟩]:=g;rw[show xP (some (y',R)) (S (q+d)).ls (S (q+d)).env=sJ R (J6 y' (S (q+d)).ls (S (q+d)).env)from rfl];cases hB:sJ R (J6 y' (S (q+d)).ls (S (q+d)).env)with
  |true=>rw[hB]at g;exact ag g
  |false=>rw[hB]at g;have g:[(⟨.undef,(S (q+d)).m⟩:VM)]=[⟨.aL y,m'⟩]:=rW g;simp at g
def OZ{x:OF}{ls:cM}{env:T j5}{M M':cD}{id off len a:Nat}(c:x ls env=.slice id off len a)(b:M.get id=M'.get id):dH x ls env M=dH x ls env M':=by
 have h:Z6 M id off len=Z6 M' id off len:=by unfold Z6;rw[b]
 unfold dH;rw[c];show ob (Z6 M id off len) _=ob (Z6 M' id off len) _;rw[h]
def nV.op{r:Option Nat}(bf:uD P G cf)(F:Fixed P cr nt cf b cz ord X S)(hb:m0.lim<=b)(bg:dI ι0 (m0.nm ι0) cr (S 0).env a0.tmps)(a8:nt<=a0.tmps.size)(D:nV P G b cz ord X S ι0 m0 w0 a0 listed a w ι q)
   (ho:cz[i]?=some o) (a9:listed.getD i false=false) (hr:∀e∈o.after,Region.binds .any e=true->listed.getD e.on false=true) (hD:∀p,ord[p]?=some i->DStep cf b (X p) (S p) (S (p+1))) {K:Act->cG->Prop} {Q:Exit->Act->cG->Prop}
   (hK:∀a' w' ι' q',nV P G b cz ord X S ι0 m0 w0 a0 (listed.setIfInBounds i true) a' w' ι' q'->K a' w'):wpOpIn (FR r) 0 P cz Q i K a w:=by
 have hi:i<listed.size:=by rw[D.len];exact(vo.1 ho).1
 let⟨p,hp⟩:=adi (F.all i (vo.1 ho).1);have aq:p<ord.length:=(gB.1 hp).1;have bx:q<=p:=by rcases asW p q with h|h;have:=D.low p h;rw[pX hp,a9]at this;cases this;exact h
 obtain⟨d,rfl⟩:∃d,p=q+d:=⟨p-q,Zs⟩;have Z:∀j,JH cz i j->listed.getD j false=true:=λj hj=>hj.listed D.closed λo' ag e he b3=>by rw[ho]at ag;cases ag;exact hr e he b3
 let⟨o',ag,bm,bu,hg⟩:=F.inst (q+d) i hp;rw[ho]at ag;cases ag;have s:=D.st F hb bg a8 d Zs (q+d) (aA _);let af:Act:={tmps:=RJ cz ord S listed ι a0 (q+d),defers:=[]}
 have ad:∀t∈BP cz o,a.tmps.getD t undef=af.tmps.getD t undef:=λt ht=>D.looks F a8 hp ho a9 Z ht;have bp:a.tmps.size=af.tmps.size:=by rw[D.sz];exact rR _ |>.symm
 have ay:=GI bp ad;have bs:=qZ (tmps:=af.tmps) s hg;have a7:(∀cs bl,o.op≠.select cs bl)->execOp a.eval o=execOp af.eval o:=λI=>execOp_congr o I (MU ad);have b1:=UA (listed:=listed) F.nodup hp hi;have a5:∀r,Lp ord listed r=true->Lp ord (listed.setIfInBounds i true) r=true:=λr hL=>by rw[b1];split<;>simp[hL]
 have a2:∀y∈IG (X (q+d)).2.op,Sm id (S (q+d)).ls (S (q+d)).env (YK ord S listed (q+d)) (DZ ord X S listed (q+d)) y:=λy hy=>D.opd F aq Z (F.opd _ i hp y hy);have E:=D.lay F hb d Zs;have LFd:=F.lay D.head D.base.rm.ok (Lp ord listed) d Zs;let⟨v,_,_,I⟩:=hD (q+d) hp;have C:Aq S (q+d)=v:=by simp[Aq,‹(S (q+d+1)).ls=_›]
 have ap:∀y O,(X (q+d)).2.guard=some (y,O)->J6 y (YK ord S listed (q+d)) (DZ ord X S listed (q+d))=J6 y (S (q+d)).ls (S (q+d)).env:=λy O h=>D.opd F aq Z (F.opdg _ i y O hp h);have ai:Region.wanted o (yielded cz a.tmps)=xP (X (q+d)).2.guard (S (q+d)).ls (S (q+d)).env:=by
  rw[ay,bs];cases hgd:(X (q+d)).2.guard with
  |none=>rfl
  |some z=>let⟨y,O⟩:=z;simp only[xP];rw[ap y O hgd]
 have b8:((dS b X S q (Lp ord listed) d).nm ι).le ((dS b X S q (Lp ord (listed.setIfInBounds i true)) (d+1)).nm ι):=
  cD.dL (λj hj=>F.DY D.head D.base.rm.ok Zs Zs (λk _ h=>a5 _ h) hj) λ_ _=>rfl
 have a1:K9 (X (q+d)).2=false->iM b X S (q+d)=none->(Aq S (q+d)).lt ((dS b X S q (Lp ord listed) d).nm ι)->K (a.put o.dst (u7 ι (Aq S (q+d)))) w:=by intro hE B N;exact hK _ _ ι q (D.quiet F a8 hp ho a9 hr hE (ι':=ι) (w':=w) (Step.refl D.base.rm) (λ_ _=>rfl) (λ_ _=>rfl) (λid am h=>by rw[B]at h;cases h) (j5.aU b8 _ N))
 show wpOpIn (FR r) 0 P cz Q i K a w;unfold wpOpIn;simp only[ho];rw[ai];have al:K9 (X (q+d)).2=false->iM b X S (q+d)=none->Aq S (q+d)=.undef->(∀f,o.about P w a.eval=some f->(FR r).fn f)∧K (a.put o.dst undef) w:=by intro hE B J;refine⟨λ_ _=>trivial,?_⟩;have:=a1 hE B (by rw[J];trivial);rw[J,oJ]at this;exact this
 have a6:∀{ao},(X (q+d)).2.op=ao->ao≠.e .bad->jT P cr (jN cz ord (q+d)) o.op=some ao:=by intro ao A h2;rw[bm]at A;unfold rJ at A;split at A;rename_i a' ha;rw[ha,A];exact cj A.symm h2
 cases hx:(X (q+d)).2.op with
 |p po=>
  rw[hx]at I a2;let⟨A,_,_⟩:=I;have hE:K9 (X (q+d)).2=false:=by simp[K9,hx]
  have B:iM b X S (q+d)=none:=by simp[iM,hx]
  have Y:=a6 hx ZZ;have W:qW po (S (q+d)).ls (S (q+d)).env=some v->o.wpIn (FR r) 0 P a w K Q:=by
   intro A;rw[← atj a2]at A;let⟨M,U⟩:=wE (a:=af) s Y A;refine lH (vE Y (λ_ _ h=>by cases h)) (R:=λu w'=>u=u7 ι v∧w'=w) ?_ ?_;exact bG (by rw[a7 (lY Y)];exact U o rfl w) ⟨rfl,rfl⟩;rintro u w' ⟨rfl,rfl⟩;have:=a1 hE B (by rw[C];exact M)
   rwa [C]at this
  cases hgd:(X (q+d)).2.guard with
  |none=>rw[hgd]at A;exact W A
  |some z=>
   let⟨y,O⟩:=z;rw[hgd]at A;have A:bi (sJ O (J6 y (S (q+d)).ls (S (q+d)).env)) (qW po (S (q+d)).ls (S (q+d)).env) (some .undef)=some v:=A;rw[show xP (some (y,O)) (S (q+d)).ls (S (q+d)).env=sJ O (J6 y (S (q+d)).ls (S (q+d)).env)from rfl];cases hB:sJ O (J6 y (S (q+d)).ls (S (q+d)).env)with
   |true=>rw[hB]at A;exact W A
   |false=>rw[hB]at A;cases A;exact al hE B C
 |r ro=>
  rw[hx]at I a2;let⟨A,_,_,_⟩:=I;have hE:K9 (X (q+d)).2=false:=by simp[K9,hx]
  have B:iM b X S (q+d)=none:=by simp[iM,hx]
  have Y:=a6 hx ZZ;have ax:xX ro (S (q+d)).ls (S (q+d)).env (dS b X S q (Lp ord listed) d)=some v->o.wpIn (FR r) 0 P a w K Q:=by
   intro A;rw[← atl a2]at A;let⟨M,U⟩:=wF (a:=af) s E.rm (yY Y) A;refine lH (vE Y (λ_ _ h=>by cases h)) (R:=λu w'=>u=u7 ι v∧w'=w) ?_ ?_;exact bG (by rw[a7 (lY Y)];exact U o rfl) ⟨rfl,rfl⟩;rintro u w' ⟨rfl,rfl⟩;have:=a1 hE B (by rw[C];exact M)
   rwa [C]at this
  rcases A with⟨A,h2⟩|⟨hgn,y,id,off,len,cp,rfl,hv1,au,hv3,hv4⟩
  case inr=>
   let⟨q0,k1,k2,k3⟩:=RI X (q+d);have bw:q<=q0:=by rcases D.head with h0|hh;omega;rcases asW q0 q with N|hge;have:=k3 (q-1) Zs Zs;rw[this]at hh;cases hh;exact hge
   obtain⟨d0,an⟩:∃d0,q+d=q0+d0:=⟨q+d-q0,Zs⟩;have bh:hd (S (q+d)).m (S (q+d)).gs=(S q0).m:=by
    let⟨rr,r1,r2⟩:=F.gs k2 d0 Zs;rw[← an]at r1 r2;cases rr with
    |succ rr=>let⟨az,e,M,U,_,g4,_⟩:=r2 0 Zs;rw[k3 az M U]at g4;cases g4
    |zero=>
     cases hgs:(S (q+d)).gs with
     |nil=>rw[hgs]at r1;simp at r1
     |cons g gs=>rw[hgs]at r1;simp at r1;exact r1
   rw[bh]at au;have au:=zq au;obtain⟨y1,aj⟩:∃y1,(S (q+d)).m.get id=some y1:=by
    cases hgt:(S (q+d)).m.get id with
    |none=>rw[hgt]at hv3;cases hv3
    |some y1=>exact⟨y1,rfl⟩
   rw[an]at aj k3;rcases F.since (q:=q0) d0 Zs k3 aj with h|⟨p',p1,p2,p3⟩;rw[au]at h;cases h;rw[an,aj]at hv3;cases hv3;rw[← an]at aj p2;obtain⟨x,bt⟩:∃x,aD P cr (jN cz ord (q+d)) x=some y:=by
    have:=yY Y;revert this;generalize o.op=op';intro h;cases h with
    |bytesStr _ _ _ hx=>exact⟨_,hx⟩
   have N:=(D9 (a:=af) s bt).2;have bc:J6 y (YK ord S listed (q+d)) (DZ ord X S listed (q+d))=J6 y (S (q+d)).ls (S (q+d)).env:=D.opd F aq Z (F.opd _ i hp y (by rw[hx];simp[IG,IE]));rw[bc,hv1]at N;simp only[j5.lt]at N;let⟨y',M,U⟩:=N;have b5:(dS b X S q (Lp ord listed) d).get id=(S (q+d)).m.get id:=by rcases LFd.from_ id y' M with h|⟨d',e1,e2,e3⟩;have:=F.Ih D.head (show q<=p' by omega) Zs p3;rw[this]at h;cases h;cases U;rcases awR (q+d') p' with N|heq|hgt;exact cj (F.MS N Zs e3 p3) (avw _);subst heq;rw[e3]at p3;cases p3;rw[M,aj];exact cj (F.MS hgt Zs p3 e3) (avw _)
   rw[hgn];refine ax ?_;show dH (J6 y) _ _ _=_;rw[OZ hv1 b5];exact hv4
  let⟨rr,V,bn⟩:=F.gs D.head d Zs;have bz:rr<=(X (q+d)).1:=by
   rw[F.cnt (q+d) i ro hp hx];refine BA _ _ _ λk hk=>?_;let⟨az,e,M,U,g3,g4,g5⟩:=bn k hk;refine⟨e,g5,?_⟩;cases hm:mOf (masks cz.toList) i e with
   |false=>rfl
   |true=>have h3:=Z e (rQ cz i e hm);have h4:=D.high az M g4;rw[pX g3,h3]at h4;cases h4
  have H:Dg (X (q+d)).2.guard (xX ro) (S (q+d)).ls (S (q+d)).env (S q).m=some v:=by
   cases rr with
   |zero=>
    have:hd (S (q+d)).m (S (q+d)).gs=(S q).m:=by
     cases hgs:(S (q+d)).gs with
     |nil=>rw[hgs]at V;simp at V
     |cons g gs=>rw[hgs]at V;simp at V;exact V
    rw[this]at A;exact A
   |succ rr=>
    let⟨g,M,U⟩:=GH h2 rr Zs;have:g=(S q).m:=by
     cases hgs:(S (q+d)).gs with
     |nil=>rw[hgs]at V;simp at V
     |cons g' gs=>rw[hgs]at V M;have M:gs[rr]?=some g:=M;simp at V;rw[M]at V;exact rW V
    rw[this]at U;exact U
  have W:xX ro (S (q+d)).ls (S (q+d)).env (S q).m=some v->o.wpIn (FR r) 0 P a w K Q:=λA=>ax (adI LFd.sub A);cases hgd:(X (q+d)).2.guard with
  |none=>rw[hgd]at H;exact W H
  |some z=>
   let⟨y,O⟩:=z;rw[hgd]at H;have H:bi (sJ O (J6 y (S (q+d)).ls (S (q+d)).env)) (xX ro (S (q+d)).ls (S (q+d)).env (S q).m) (some .undef)=some v:=H;rw[show xP (some (y,O)) (S (q+d)).ls (S (q+d)).env=sJ O (J6 y (S (q+d)).ls (S (q+d)).env)from rfl];cases hB:sJ O (J6 y (S (q+d)).ls (S (q+d)).env)with
   |true=>rw[hB]at H;exact W H
   |false=>rw[hB]at H;cases H;exact al hE B C
 |a lo=>
  rw[hx]at I a2;let⟨res,A,J,_,_,_,_⟩:=I;have hE:K9 (X (q+d)).2=false:=by simp[K9,hx]
  have Y:=a6 hx ZZ;have av:res.2=none->iM b X S (q+d)=none:=λh=>by let⟨u,bl⟩:=res;obtain rfl:bl=none:=h;simp[iM,hx,A]
  have W:Gr lo (S (q+d)).ls (S (q+d)).env (b+(X (q+d)).1)=some res->o.wpIn (FR r) 0 P a w K Q:=by
   intro h3;rw[← atm a2]at h3;have bb:∀bl,res.2=some bl->¬ ((dS b X S q (Lp ord listed) d).nm ι) (b+(X (q+d)).1):=by
    rintro bl hbl ⟨y,M,U⟩;have hm:iM b X S (q+d)=some (b+(X (q+d)).1,bl):=by let⟨u,be⟩:=res;obtain rfl:be=some bl:=hbl;simp[iM,hx,A]
    rw[LFd.later (q+d) _ bl (aA _) aq hm]at M;cases M;cases U
   let⟨u,bl⟩:=res;cases bl with
   |none=>
    have B:=av rfl;have ar:=make_none (a:=af) s E.rm Y h3 w;refine lH (vE Y (λ_ _ h=>by cases h)) (R:=λx w'=>x=u7 ι u∧w'=w) ?_ ?_;exact bG (by rw[a7 (lY Y)];exact ar.2 o rfl w) ⟨rfl,rfl⟩;rintro x w' ⟨rfl,rfl⟩;have:=a1 hE B (by rw[C,J];exact ar.1)
    rwa [C,J]at this
   |some bl=>
    have hm:iM b X S (q+d)=some (b+(X (q+d)).1,bl):=(by simp[iM,hx,A]);have hn:=bb bl rfl;have ar:=wI (a:=af) s (λ_ _=>rfl) hn (Dx Y) h3 w;have b6:∀l:Loc,∀j,(∀am,iM b X S (q+d)≠some (j,am))->(ι.upd (b+(X (q+d)).1) l) j=ι j:=λl j hj=>ι.upd_ne l λe=>hj bl (by rw[e];exact hm);have b2:¬ (S q).m.has (b+(X (q+d)).1):=λ⟨y,M,U⟩=>hn ⟨y,LFd.sub _ y M U,U⟩;have aw:∀l:Loc,∀j,(dS b X S q (Lp ord listed) d).has j->(ι.upd (b+(X (q+d)).1) l) j=ι j:=λl j hj=>ι.upd_ne l λe=>hn (e▸hj);have ac:∀l:Loc,((dS b X S q (Lp ord listed) d).nm ι).le ((dS b X S q (Lp ord (listed.setIfInBounds i true)) (d+1)).nm (ι.upd (b+(X (q+d)).1) l)):=λl=>cD.dL (λj hj=>F.DY D.head D.base.rm.ok Zs Zs (λk _ h=>a5 _ h) hj) (aw l)
    have ah:jU bl=false->(dS b X S q (Lp ord (listed.setIfInBounds i true)) (d+1)).has (b+(X (q+d)).1):=λbr=>⟨bl,(F.lay D.head D.base.rm.ok _ (d+1) Zs).laid d _ bl Zs (by rw[b1,cg rfl]) hm,br⟩;have ab:∀l:Loc,((dS b X S q (Lp ord (listed.setIfInBounds i true)) (d+1)).nm (ι.upd (b+(X (q+d)).1) l)).cap (b+(X (q+d)).1)=l.cap:=λl=>(by show((ι.upd (b+(X (q+d)).1) l) (b+(X (q+d)).1)).cap=l.cap;rw[Q0.aF]);cases ar with
    |made l obj w' B=>
     let⟨M,U⟩:=B.blk _ (ac l) (ah B.live) (ab l);refine lH (vE Y (λ_ _ h=>by cases h)) (R:=λx a4=>x=u7 (ι.upd (b+(X (q+d)).1) l) u∧a4=w') ?_ ?_;exact bG (by rw[a7 (lY Y)];exact B.run o rfl) ⟨rfl,rfl⟩;rintro x a4 ⟨rfl,rfl⟩;have:=D.quiet F a8 hp ho a9 hr hE (ι':=ι.upd (b+(X (q+d)).1) l) (w':=a4) (Step.push D.base.rm B.grew λj hj=>ι.upd_ne l λe=>b2 (e▸hj))
      (λk hk=>by rw[B.grew.heap];exact(awU hk).trans (ado hk).symm) (b6 l) (λid am ae=>?_) (by rw[C,J];exact U)
     rw[C,J]at this;exact hK _ _ _ q this;rw[hm]at ae;cases ae;rw[Q0.aF];refine⟨by rw[B.grew.heap];exact M,B.live,λ_=>⟨⟨B.loc,B.spot⟩,λc e fz b4=>?_⟩⟩;rw[B.grew.heap,B.loc,kM]at b4;exact B.free c e fz (rW b4)
    |@tail _ pp l hpn hbb hgv N=>
     refine lH (vE Y (λ_ _ h=>by cases h)) (R:=λx a4=>x=u7 (ι.upd (b+(X (q+d)).1) l) u∧a4=w) ?_ ?_;exact bG (by rw[a7 (lY Y)];exact hgv o rfl w) ⟨rfl,rfl⟩;rintro x a4 ⟨rfl,rfl⟩;have:=D.quiet F a8 hp ho a9 hr hE (ι':=ι.upd (b+(X (q+d)).1) l) (w':=a4) ((Step.refl D.base.rm).rename λj hj=>ι.upd_ne l λe=>b2 (e▸hj))
      (λk hk=>rfl) (b6 l) (λid am ae=>?_) (by rw[C,J];exact N _ (ac l) (ah rfl) (ab l))
     rw[C,J]at this;exact hK _ _ _ q this;rw[hm]at ae;cases ae;rw[Q0.aF];refine⟨⟨(ac l pp hpn).1,?_⟩,rfl,λhl=>by cases hl⟩;rw[aw l pp hpn];exact hbb
  cases hgd:(X (q+d)).2.guard with
  |none=>rw[hgd]at A;exact W A
  |some z=>
   let⟨y,O⟩:=z;have a3:=A;rw[hgd]at a3;have a3:bi (sJ O (J6 y (S (q+d)).ls (S (q+d)).env)) (Gr lo (S (q+d)).ls (S (q+d)).env (b+(X (q+d)).1)) (some (.undef,none))=some res:=a3;rw[show xP (some (y,O)) (S (q+d)).ls (S (q+d)).env=sJ O (J6 y (S (q+d)).ls (S (q+d)).env)from rfl];cases hB:sJ O (J6 y (S (q+d)).ls (S (q+d)).env)with
   |true=>rw[hB]at a3;exact W a3
   |false=>rw[hB]at a3;cases a3;exact al hE (av rfl) (by rw[C,J])
 |e eo=>
  rw[hx]at I a2;let⟨A,_,bk⟩:=I;have hE:K9 (X (q+d)).2=true:=by simp[K9,hx]
  have aa:∀k,k<d->Lp ord listed (q+k)=true:=λk hk=>by
   have b7:q+k<ord.length:=Zs
   have:=Z _ (F.eff (q+d) i hp hE (q+k) _ Zs (cB b7));rw[pX (cB b7)];exact this
  have ba:∀k,k<d->K9 (X (q+k)).2=false:=λk hk=>by
   cases he:K9 (X (q+k)).2 with
   |false=>rfl
   |true=>have A:=D.high (q+k) Zs he;rw[aa k hk]at A;cases A
  have b9:=F.lay_all (L:=Lp ord listed) d Zs λk hk=>⟨aa k hk,ba k hk⟩;rw[b9]at s E;have b0:∀ι' w',Step P G ι (S (q+d)).m w ι' (S (q+d+1)).m w'->v.lt ((S (q+d+1)).m.nm ι')->K (a.put o.dst (u7 ι' v)) w':=by intro ι' w' bo N;let⟨bv,M,U⟩:=D.effect F hb a8 hp ho a9 hr hE aa bo (by rw[C];exact N);rw[M,C]at U;exact hK _ _ _ _ U
  have W:xD eo cf (S (q+d)).ls (S (q+d)).env (S (q+d)).m=some [⟨v,(S (q+d+1)).m⟩]->o.wpIn (FR r) 0 P a w K Q:=by
   intro A;have bj:Db.e eo≠.e .bad:=by intro h;cases h;cases A
   have Y:=a6 hx bj;rw[← aku a2]at A;have:=Fv (a:=af) bf s E.rm Y A o rfl;refine qN (JD (cf:=cf) Y A) (GJ (a7 (lY Y)) this) ?_ ?_ λ_=>uE;rintro u w' (⟨_,hu,x,hxm,ι',M,U,rfl⟩|⟨_,_,_,_,_,_,_,h⟩);cases hu;obtain rfl:=lM.1 hxm;exact b0 ι' w' M U;cases h;rintro c w' (⟨_,hu,_⟩|⟨x,hxm,y,_,hxy,_⟩);cases hu;obtain rfl:=lM.1 hxm;exact cj ⟨y,hxy⟩ bk
  cases hgd:(X (q+d)).2.guard with
  |none=>rw[hgd]at A;exact W A
  |some z=>
   let⟨y,O⟩:=z;rw[hgd]at A;have A:bi (sJ O (J6 y (S (q+d)).ls (S (q+d)).env)) (xD eo cf (S (q+d)).ls (S (q+d)).env (S (q+d)).m) (one .undef (S (q+d)).m)=some [⟨v,(S (q+d+1)).m⟩]:=A;rw[show xP (some (y,O)) (S (q+d)).ls (S (q+d)).env=sJ O (J6 y (S (q+d)).ls (S (q+d)).env)from rfl];cases hB:sJ O (J6 y (S (q+d)).ls (S (q+d)).env)with
   |true=>rw[hB]at A;exact W A
   |false=>rw[hB]at A;have A:[(⟨.undef,(S (q+d)).m⟩:VM)]=[⟨v,(S (q+d+1)).m⟩]:=rW A;simp only[avG,VM.mk.injEq,and_true]at A;let⟨J,hm⟩:=A;refine⟨λ_ _=>trivial,?_⟩;have:=b0 ι w (by rw[← hm];exact Step.refl E.rm) (by rw[← J];trivial);rw[← J,oJ]at this;exact this
where
 make_none {P:cH} {G:cD} {ι:Q0} {m:cD} {w0:cG} {cr:cR} {done:List (Option Nat)} {ls:cM} {env:T j5} {a:Act} (s:St P ι (m.nm ι) cr done ls env a.tmps) (hm:RM P G ι m w0.heap) {op:Op} {lo:Yf} (h:jT P cr done op=some (.a lo)) {u:j5} {nid:Nat}
   (J:Gr lo ls env nid=some (u,none)) (w:cG):u.lt (m.nm ι)∧Gives P a.eval op (u7 ι u):=by
  have hn:¬ (m.nm ι) m.nx:=λ⟨_,h3,_⟩=>avw _ (cD.Q9 hm.ok h3);have bq:=sl_place J m.nx;have I:=wI (a:=a) s (λ_ _=>rfl) hn (Dx h) bq w;cases I with
  |none A h2=>exact⟨A,h2⟩
 sl_place {lo:Yf} {ls:cM} {env:T j5} {u:j5} {nid:Nat} (J:Gr lo ls env nid=some (u,none)) (nid':Nat):Gr lo ls env nid'=some (u,none):=by
  cases lo with
  |alloc z=>cases J
  |box x=>cases J
  |mkMap=>cases J
  |buildSlice es len z ps=>let⟨c,A,h⟩:=D7 J;let⟨c2,h2,h⟩:=D7 h;cases h
  |mkSlice es by' z l c=>let⟨_,_,_,h⟩:=jm J;let⟨_,_,_,h⟩:=jm h;let⟨_,h⟩:=K4 h;let⟨_,h⟩:=K4 h;let⟨_,h⟩:=K4 h;cases h
  |strBytes x=>let⟨_,_,h⟩:=sU J;let⟨_,_,h⟩:=D7 h;cases h
  |sl es x lo hi=>
   have bd:∀l h,K6 nid es (J6 x ls env) l h=some (u,none)->K6 nid' es (J6 x ls env) l h=some (u,none):=by
    intro l h I;generalize J6 x ls env=X at I;cases X with
    |nilSlice=>exact I
    |slice=>exact I
    |sliceU id off len es'=>
     have hu:∀hh,K6.unk nid es l id off len es' hh=some (u,none)->K6.unk nid' es l id off len es' hh=some (u,none):=by
      intro hh I;unfold K6.unk at I ⊢;let⟨q1,I⟩:=K4 I;let⟨q2,I⟩:=K4 I;let⟨q3,I⟩:=K4 I;rw[q1,q2,q3];simp only[aC];cases hb:blt l len with
      |true=>rw[hb]at I;exact I
      |false=>
       rw[hb]at I;simp only[bA]at I ⊢;cases hz:beq l 0 with
       |true=>rw[hz]at I;exact I
       |false=>rw[hz]at I;cases I
     cases h with
     |none=>exact hu len I
     |some hh=>exact hu hh I
    |_=>exact I
   have J:jk (om lo) 0 ls env (λl=>Option.rec (K6 nid es (J6 x ls env) l none) (λh=>jC (h ls env) λh=>K6 nid es (J6 x ls env) l (some h)) (om hi))=some (u,none):=J;show jk (om lo) 0 ls env (λl=>Option.rec (K6 nid' es (J6 x ls env) l none) (λh=>jC (h ls env) λh=>K6 nid' es (J6 x ls env) l (some h)) (om hi))=some (u,none);have ak:∀l,(Option.rec (K6 nid es (J6 x ls env) l none) (λh=>jC (h ls env) λh=>K6 nid es (J6 x ls env) l (some h)) (om hi):LR)=some (u,none)->
     (Option.rec (K6 nid' es (J6 x ls env) l none) (λh=>jC (h ls env) λh=>K6 nid' es (J6 x ls env) l (some h)) (om hi):LR)=some (u,none):=by
    intro l h;cases ht:om hi with
    |none=>rw[ht]at h;exact bd l none h
    |some g=>rw[ht]at h;let⟨k,n,A,h2⟩:=jm h;show jC (g ls env) (λh=>K6 nid' es (J6 x ls env) l (some h))=_;rw[A];exact bd l (some n) h2
   cases ht:om lo with
   |none=>rw[ht]at J;exact ak 0 J
   |some g=>rw[ht]at J;let⟨k,n,A,h2⟩:=jm J;show jC (g ls env) _=_;rw[A];exact ak n h2
end
def uG{α:Type}{f:α->Option Nat}:∀{l:List α},(l.filterMap f).Nodup->∀{i j:Nat} {x y:α} {t:Nat},l[i]?=some x->l[j]?=some y->f x=some t->f y=some t->i=j
 |[],_,i,j,x,y,t,hi,_,_,_=>by simp at hi
 |z::l,h,i,j,x,y,t,hi,hj,hx,hy=>by
  have hmem:∀{k:Nat} {u:α},l[k]?=some u->f u=some t->t∈l.filterMap f:=λhk hu=>List.mem_filterMap.2 ⟨_,O5 hk,hu⟩;cases hz:f z with
  |none=>
   rw[List.filterMap_cons_none hz]at h;cases i with
   |zero=>simp at hi;subst hi;rw[hz]at hx;cases hx
   |succ i=>
    cases j with
    |zero=>simp at hj;subst hj;rw[hz]at hy;cases hy
    |succ j=>exact ci Nat.succ (uG h (i:=i) (j:=j) (by simpa using hi) (by simpa using hj) hx hy)
  |some u=>
   rw[List.filterMap_cons_some hz]at h;let⟨h1,h2⟩:=aw0.1 h;cases i with
   |zero=>
    simp at hi;subst hi;rw[hz]at hx;cases hx;cases j with
    |zero=>rfl
    |succ j=>exact cj (hmem (by simpa using hj) hy) h1
   |succ i=>
    cases j with
    |zero=>simp at hj;subst hj;rw[hz]at hy;cases hy;exact cj (hmem (by simpa using hi) hx) h1
    |succ j=>exact ci Nat.succ (uG h2 (i:=i) (j:=j) (by simpa using hi) (by simpa using hj) hx hy)
variable {α:Type}
section
variable {P:cH}{G:cD}{cr:cR}{nt:Nat}{cf:G6}{cz:Array Oper}
def Pd(l:List α)(p k:Nat)(hp:p<=l.length)(a:k<p):(l.take p).reverse[k]?=l[p-1-k]?:=by rw[List.getElem?_reverse ZD,ajv,ahO,cg Zs];congr 1;omega
def adN{ord:cR}{X:Nat->Nat×Inst}{a:List Inst}(b:a.length=ord.length)(g:∀p x,a[p]?=some x->(X p).2=x):∀p,p<=ord.length->
   DX ord X p=(((((ord.zip a).take p).filter λy=>K9 y.2).map (·.1)).reverse):=by
 intro p;induction p with
 |zero=>intro _;rfl
 |succ p ih=>
  intro h;have c:p<(ord.zip a).length:=by rw[List.length_zip];omega
  have d:(ord.zip a)[p]=(ord[p]'Zs,a[p]'Zs):=List.getElem_zip ..;rw[O7 c,avJ,ajo,List.reverse_append,← ih Zs];have e:(X p).2=a[p]'Zs:=g p _ (cB Zs);have f:ord.getD p 0=ord[p]'Zs:=by rw[O0,cB Zs];rfl
  simp only[DX,d,e,f];cases he:K9 (a[p]'Zs)<;>simp[he]
def JL(f:α->Bool)(l:List α){p q:Nat}(c:p<q)(hp:p<l.length)(hf:f l[p]=true):((l.take p).filter f).length<((l.take q).filter f).length:=by
 have b:l.take (p+1)=(l.take q).take (p+1):=by rw[List.take_take];congr 1;omega
 have a:((l.take (p+1)).filter f).length<=((l.take q).filter f).length:=by rw[b];exact((List.take_sublist _ _).filter f).length_le
 rw[O7 hp,avJ]at a;simp[hf]at a;omega
def aaJ{n:Nat}{l:List (Nat×Inst)}(E:Gu P cr cz=some (.dreg n l))(a4:∀(i:Nat)(o:Oper)(t:Tmp),cz[i]?=some o->o.dst=some t->t<nt){b:Nat}{S:Nat->DS}(a5:(S 0).ls=[])(a3:(S 0).gs=[(S 0).m])(ad:∀p x,l[p]?=some x->RB cf b x (S p) (S (p+1))):
   ∃ord X,Fixed P cr nt cf b cz ord X S∧l.length=ord.length∧∀p x,l[p]?=some x->X p=x:=by
 unfold Gu at E;split at E;cases E;rename_i d a1;split at E;rename_i W;cases E;generalize hord:canon (Jd cz) (masks cz.toList) cz.size=ord at *;simp only[aah,oo]at W;let⟨⟨⟨⟨c1,c2⟩,c3⟩,c4⟩,c5⟩:=W;let⟨V,a0⟩:=YJ _ _ _ a1;let⟨a8,C⟩:=RD (masks cz.toList) (ord.zip d) [] 0;have I:(ord.zip d).length=ord.length:=by rw[List.length_zip];omega
 generalize hl:numbered (masks cz.toList) (ord.zip d) [] 0=l at *;have M:∀p i x,ord[p]?=some i->d[p]?=some x->(ord.zip d)[p]?=some (i,x):=λp i x g u=>by rw[awz];exact⟨g,u⟩
 have D:∀p i,ord[p]?=some i->∃x o,d[p]?=some x∧cz[i]?=some o∧QM P cr (jN cz ord p) cz i=some (x,o.dst)∧(l.getD p default).2=x∧l[p]?=some (l.getD p default):=by intro p i f;let⟨x,o,g,u,G⟩:=a0 p i f;let⟨c,v,_⟩:=C p i x (M p i x f g);refine⟨x,o,g,u,by simpa using G,by rw[O0,v];rfl,by rw[O0,v];rfl⟩
 have a6:∀i∈ord,i<cz.size:=λi R=>Eq.mp O8 (agT.1 c2 i R);have w:∀p i x,ord[p]?=some i->d[p]?=some x->yO (masks cz.toList) cz i x ((ord.zip d).take p).reverse=true:=λp i x g u=>by have:=RA c5 p (i,x) (M p i x g u);simpa using this
 have K:∀p q j,q<p->p<=ord.length->ord[q]?=some j->∃x,(j,x)∈((ord.zip d).take p).reverse∧d[q]?=some x:=λp q j A f T=>by let⟨x,_,g,_⟩:=D q j T;refine⟨x,axG.2 ?_,g⟩;refine O5 (i:=q) ?_;rw[ahO,cg A];exact M q j x T g
 have L:∀p i,p<ord.length->ord[p]?=some i->∀y,WK (masks cz.toList) i ((ord.zip d).take p).reverse y=true->RG cz ord (λp=>l.getD p default) p i y:=by
  intro p i f R y F;cases y with
  |con c=>trivial
  |loc k=>
   simp only[WK]at F;split at F;rename_i z N;have hk:k<p:=by have:=(gB.1 N).1;simp at this;omega
   rw[Pd _ _ _ Zs hk]at N;let⟨g,_⟩:=awz.1 N;exact⟨z.1,hk,g,rQ cz i z.1 F⟩;cases F
  |slot j=>intro q A e;let⟨x,hm,hx⟩:=K p q (ord[q]'Zs) A Zs (cB Zs);let⟨x',o',g,_,_,u,_⟩:=D q (ord[q]'Zs) (cB Zs);rw[hx]at g;cases g;have:=agT.1 F _ hm;rw[u]at e;simp[e]at this
 refine⟨ord,λp=>l.getD p default,⟨Cg c1,λi R=>?_,a6,λp i f=>?_,λp f=>?_,λp i f Q q j A T=>?_,λp i o f B e he hb=>?_,λi j oi oj t R T g u=>?_,λi o t B ht q oq A a7 ac=>?_,λp i f y F=>?_,
  λp i y wt f hg=>?_,λp i o f B=>?_,λp q o o' aa A B H=>?_,a4,a3,a5⟩,by rw[a8,I],λp x h=>by simp[O0,h]⟩
 have:=agT.1 c3 i (akg.2 R);simpa using this;let⟨x,o,g,u,G,v,_⟩:=D p i f;let⟨o',J,Z,O,U,g5⟩:=Ap G;rw[u]at J;cases J;exact⟨o,u,by show(l.getD p default).2.op=_;rw[v];exact O,by show(l.getD p default).2.dst=_;rw[v];exact U,by show qM _ _ _ (l.getD p default).2.guard;rw[v];exact g5⟩;let⟨x,o,_,_,_,_,h5⟩:=D p (ord[p]) (cB f);exact ad p _ h5;let⟨x,o,g,u,G,v,_⟩:=D p i f;have Q:K9 (l.getD p default).2=true:=Q;rw[v]at Q;have s:=w p i x f g;simp only[yO,oo]at s;have s:=s.1.1.1;unfold K9 at Q;split at Q;rename_i eo a2;rw[a2]at s;let⟨x',hm,_⟩:=K p q j A (by have:=(gB.1 f).1;omega) T;exact rQ cz i j (agT.1 s _ hm);cases Q;let⟨x,o',g,u,G,v,_⟩:=D p i f;have s:=w p i x f g;simp only[yO,oo]at s;have s:=s.1.1.2;rw[B]at s;simp only[oo]at s;have:=agT.1 s.1 e (by simpa using he);rw[hb]at this;simp only[axr,avY]at this;let⟨y,F,ae⟩:=axL.1 this;let⟨q,A⟩:=adi (axG.1 F);rw[ahO]at A;split at A;rename_i ab;let⟨J,_⟩:=awz.1 A;exact⟨q,ab,by rw[J];simpa using ae⟩;cases A;exact uG (Cg c4) (by simpa using R) (by simpa using T) g u;let⟨p,f⟩:=adi (show i∈ord from by have:=agT.1 c3 i (akg.2 (vo.1 B).1);simpa using this);let⟨x,o',g,u,G,v,_⟩:=D p i f;have s:=w p i x f g;simp only[yO,oo]at s;have s:=s.1.1.2;rw[B]at s;simp only[oo]at s;have:=agT.1 (agT.1 s.2 t ht) q (akg.2 (vo.1 A).1);rw[A]at this;simp only[ac,bne_self_eq_false,Bool.or_false,ate,beq_iff_eq]at this;rcases this with (h|h)|h;exact cj h a7;exact .inl (rQ cz i q h);exact .inr (rQ cz q i h);let⟨x,o',g,u,G,v,_⟩:=D p i f;have s:=w p i x f g;simp only[yO,oo]at s;have F:y∈IG (l.getD p default).2.op:=F;rw[v]at F;exact L p i (gB.1 f).1 f y (agT.1 s.1.2 y F);let⟨x,o',g,u,G,v,_⟩:=D p i f;have s:=w p i x f g;simp only[yO,oo]at s
 have hg:(l.getD p default).2.guard=some (y,wt):=hg;rw[v]at hg;have s:=s.2;rw[hg]at s;exact L p i (gB.1 f).1 f y s;let⟨x,o',g,u,G,v,h5⟩:=D p i f;let⟨c,J,Z,_⟩:=C p i x (M p i x f g);have B:(l.getD p default).2.op=.r o:=B;rw[v]at B;have s:(l.getD p default).1=c:=by rw[O0,J];rfl
 show(l.getD p default).1=_;rw[s,Z (by simp[isR,B]),agA,adN V (λp x Y=>?_) p (aki (gB.1 f).1)];have a9:p<ord.length:=by have:=(gB.1 Y).1;omega
 let⟨x',_,O,_,_,U,_⟩:=D p (ord[p]) (cB a9);rw[Y]at O;cases O;exact U;have f:p<ord.length:=Zs
 let⟨x,o1,g,u,G,v,h5⟩:=D p (ord[p]) (cB f);let⟨y,o2,k1,k2,k3,k4,k5⟩:=D q (ord[q]) (cB A);let⟨c,J,_,Z⟩:=C p _ x (M p _ x (cB f) g);let⟨c',O,_,U⟩:=C q _ y (M q _ y (cB A) k1);have B:(l.getD p default).2.op=.a o:=B;have H:(l.getD q default).2.op=.a o':=H;rw[v]at B;rw[k4]at H;show(l.getD p default).1<(l.getD q default).1;rw[show(l.getD p default).1=c from by rw[O0,J];rfl,show(l.getD q default).1=c' from by rw[O0,O];rfl,Z (by simp[isR,B]),U (by simp[isR,H])];have af:(ord.zip d)[p]'(by rw[I];exact f)=(ord[p],x):=by have:=M p _ x (cB f) g;rw[cB (by rw[I];exact f)]at this;exact rW this
 have:=JL (λy:Nat×Inst=>isA y.2) (ord.zip d) aa (by rw[I];exact f) (by rw[af];simp[isA,B]);omega;cases E
def Ed(n:Nat)(listed:Array Bool):Nat:=((List.range n).filter λi=>!listed.getD i false).length
def MV{listed:Array Bool}{n:Nat}(hn:listed.size=n)(hi:i<n)(b:listed.getD i false=false):Ed n (listed.setIfInBounds i true)+1=Ed n listed:=by
 unfold Ed;have c:∀l:cR,l.Nodup->(l.filter λj=>!(listed.setIfInBounds i true).getD j false).length+(if i∈l then 1 else 0)=(l.filter λj=>!listed.getD j false).length:=by
  intro l;induction l with
  |nil=>intro _;simp
  |cons x l ih=>
   intro h;let⟨d,f⟩:=aw0.1 h;have:=ih f;by_cases hx:x=i;subst hx;rw[aE d]at this;rw[cg ZZ,awK (by rw[nG _ _ _ Zs,cg rfl];simp),awL (by rw[b];rfl),aa5];omega;have e:(listed.setIfInBounds i true).getD x false=listed.getD x false:=by rw[nG _ _ _ Zs,aE hx]
   have a:(i∈x::l)↔i∈l:=O4.trans ⟨λh=>h.resolve_left (λe=>hx e.symm),.inr⟩;simp only[a];cases hl:listed.getD x false with
   |true=>rw[awK (by rw[e,hl];simp),awK (by rw[hl];simp)];exact this
   |false=>rw[awL (by rw[e,hl];rfl),awL (by rw[hl];rfl),aa5,aa5];omega
 have:=c (List.range n) List.nodup_range;rw[cg (akg.2 hi)]at this;exact this
def aaK{b:Nat}{ord:cR}{X:Nat->Nat×Inst}{S:Nat->DS}{listed:Array Bool}(F:Fixed P cr nt cf b cz ord X S)(a:∀p,p<ord.length->Lp ord listed p=true):∀p,p<=ord.length->DZ ord X S listed p=(S p).env:=by
 intro p;induction p with
 |zero=>intro _;rfl
 |succ p ih=>intro d;let⟨_,c⟩:=F.ls (p:=p) Zs;rw[c,← ih Zs];show fA (X p).2.dst (vm ord S listed p) _=_;simp[vm,a p Zs]
def dI.adO{ι:Q0}{n:Nm}{env:T j5}{A:Array Value}(h:dI ι n cr env A)(hs:A.size=B.size)(d:∀t,A.getD t undef=B.getD t undef):dI ι n cr env B:=
 ⟨h.ok,h.small,λt j e=>by
  let⟨f,v,a,b,c⟩:=h.val t j e;exact⟨Zs,v,a,b,by rw[← d];exact c⟩⟩
def rT(ay:P.follows .mixedOrders=true)(ad:uD P G cf)(cr:cR)(nt:Nat)(r:Option Nat):oK P G cr nt cf r:=by
 intro id cz n l b4 b8 Q b1 m ι w a b0 hm b5 a3 hv hQ b3;let⟨S,Y,ar⟩:=Uy (cf:=cf) (b:=m.nx) l ⟨[],b1,reserve n m,[reserve n m]⟩ b0 hv;have bc:∀p x,l[p]?=some x->RB cf m.nx x (S p) (S (p+1)):=by rcases ar with⟨h,_⟩|⟨N,Dd,y,m',h,_⟩;exact λp x g=>.inl (h p x g);intro p x g;rcases h.step p x g with⟨_,h⟩|⟨_,_,h,_⟩;exact .inl h;exact .inr h
 let⟨c,X,F,b9,aq⟩:=aaJ (cf:=cf) (b:=m.nx) (S:=S) b4 b8 (by rw[Y]) (by rw[Y]) bc;have C:∀p,p<c.length->∃x,l[p]?=some x∧X p=x:=λp g=>⟨l[p]'Zs,cB Zs,aq p _ (cB Zs)⟩;refine wpIn_region_any ay ?_;have hb:m.lim<=m.nx:=hm.limn;have R:dI ι (m.nm ι) cr (S 0).env a.tmps:=by rw[Y];exact b5
 have ab:Step P G ι m w ι (reserve n m) {w with drawn:=w.drawn+1}:=(Step.drew hm _).trans (DW n (Step.drew hm (w.drawn+1)).rm);have v:∀i,(Array.replicate cz.size false).getD i false=false:=λi=>by rw[O6,awC];split<;>rfl
 have E:∀p,Lp c (Array.replicate cz.size false) p=false:=λp=>by unfold Lp;split;exact v _;rfl
 rcases ar with⟨hlv,hout⟩|⟨N,Dd,y,m',hPan,hout⟩;have ah:∀p,p<c.length->DStep cf m.nx (X p) (S p) (S (p+1)):=λp g=>by obtain⟨x,O,rfl⟩:=C p g;exact hlv p _ O
 have a5:∀(u:Nat) (listed:Array Bool) (V:Act) (w':cG) (K:Q0) (q:Nat),nV P G m.nx cz c X S ι m w a listed V w' K q->Ed cz.size listed=u->
   wpAnyIn (FR r) 0 P .any cz Q u listed V w':=by
  intro u;induction u with
  |zero=>
   intro listed V w' K q D f;have Z:∀i,i<cz.size->listed.getD i false=true:=λi T=>by
    cases hl:listed.getD i false with
    |true=>rfl
    |false=>have:i∈(List.range cz.size).filter λi=>!listed.getD i false:=ag4.2 ⟨akg.2 T,by rw[hl];rfl⟩;rw[U1.1 f]at this;cases this
   have hL:∀p,p<c.length->Lp c listed p=true:=λp g=>by rw[pX (cB g)];exact Z _ (F.lt _ (ql g))
   refine⟨?_,?_⟩;unfold Region.ready;refine awV.2 λi T=>?_;have T:=akg.1 T;have U:listed.getD i true=true:=by have:=Z i T;rw[O6,ado (by rw[D.len];exact T)]at this ⊢;exact this
   simp[U];have hq:=D.hq;have aa:=F.lay_all (q:=q) (L:=Lp c listed) (c.length-q) Zs λk hk=>⟨hL _ Zs,by
    cases he:K9 (X (q+k)).2 with
    |false=>rfl
    |true=>have:=D.high (q+k) Zs he;rw[hL _ Zs]at this;cases this⟩
   rw[show q+(c.length-q)=c.length from by omega]at aa;have a8:=D.lay F hb (c.length-q) Zs;have s:=D.st F hb R a3 (c.length-q) Zs c.length Zs;rw[aa]at a8 s;have a9:=s.env;rw[aaK F hL c.length (aA _)]at a9;refine hQ ⟨(S c.length).env,(S c.length).m,none,[]⟩ (by rw[hout,← b9];exact lM.2 rfl) rfl rfl K w' V a8 (a9.adO (by rw[rR,D.sz]) λt=>?_) D.defs D.sz;by_cases hw:∃(i:Nat) (o:Oper),cz[i]?=some o∧o.dst=some t;let⟨i,o,A,ht⟩:=hw;let⟨p,g⟩:=adi (F.all i (vo.1 A).1);have J:=(gB.1 g).1;rw[D.tw p i o t g (Z i (vo.1 A).1) A ht,JK F a3 g A ht c.length J];simp[vm,hL p J];rw[D.tn t λi o _ A ht=>hw ⟨i,o,A,ht⟩,zw c.length λr i o _ _ A ht=>hw ⟨i,o,A,ht⟩]
  |succ u ih=>
   intro listed V w' K q D f;refine⟨λa1=>?_,λi T=>?_⟩
   ·
    exfalso;have af:∃p,p<c.length∧Lp c listed p=false:=by have:((List.range cz.size).filter λi=>!listed.getD i false)≠[]:=λe=>(by unfold Ed at f;rw[e]at f;cases f);let⟨i,T⟩:=axz _ this;let⟨U,M⟩:=ag4.1 T;let⟨p,g⟩:=adi (F.all i (akg.1 U));exact⟨p,(gB.1 g).1,by rw[pX g];simpa using M⟩
    have a0:∀N,(∃p,p<N∧p<c.length∧Lp c listed p=false)->∃p,p<c.length∧Lp c listed p=false∧∀q,q<p->Lp c listed q=true:=by
     intro N;induction N with
     |zero=>rintro⟨p,h,_⟩;omega
     |succ N ihN=>
      rintro⟨p,U,M,h3⟩;by_cases hx:∃p,p<N∧p<c.length∧Lp c listed p=false;exact ihN hx;refine⟨p,M,h3,λq hq=>?_⟩;cases hl:Lp c listed q with
      |true=>rfl
      |false=>exact cj ⟨q,Zs,Zs,hl⟩ hx
    let⟨p0,ai,aj⟩:=af;let⟨p,U,M,h3⟩:=a0 (p0+1) ⟨p0,Zs,ai,aj⟩;have g:=cB U;have I:c[p]∈Region.ready .any cz listed:=by let⟨o,A,_⟩:=F.inst p _ g;refine mem_ready.2 ⟨?_,o,A,λe he H=>?_⟩;rw[pX g]at M;have B:c[p]<listed.size:=(by rw[D.len];exact F.lt _ (ql U));rw[O6,ado B]at M ⊢;exact M;let⟨q',ak,al⟩:=F.edges p _ o g A e he H;have:=h3 q' ak;rw[pX al]at this;exact this
    rw[a1]at I;cases I
   let⟨z,o,A,hr⟩:=mem_ready.1 T;have B:i<listed.size:=by rw[D.len];exact(vo.1 A).1
   have z:listed.getD i false=false:=by rw[O6,ado B]at z ⊢;exact z
   refine nV.op ad F hb R a3 D A z hr (λp g=>ah p (gB.1 g).1) λa2 w2 a6 q2 D2=>?_;refine ih _ a2 w2 a6 q2 D2 ?_;have:=MV D.len (by rw[← D.len];exact B) z;omega
 refine a5 _ _ a _ ι 0 ⟨ahe _,.inl rfl,λp g=>Zs,λp _ _=>E p,by rw[Y];exact ab,(λd i ac h=>by rw[E]at h;cases h),(λd d' i i' ac an _ h=>by rw[E]at h;cases h),
  (λd h=>by rw[E]at h;cases h),(λp g=>Zs),(λp i o t _ h=>by rw[v]at h;cases h),λt _=>rfl,rfl,rfl,(λi o h=>by rw[v]at h;cases h),ZZ⟩ ?_
 unfold Ed;rw[avr.2 (λi _=>by rw[v];rfl),axv];let⟨xN,eoN,aw,ba,b6⟩:=hPan.at_;have ao:N<c.length:=by have:=(gB.1 aw).1;omega
 obtain⟨iN,a4⟩:∃i,c[N]?=some i:=⟨_,cB ao⟩;have b7:iN<cz.size:=F.lt _ (O5 a4);have ap:=aq N xN aw;have bd:(X N).2.op=.e eoN:=by rw[ap];exact ba
 have b2:Om (X N).2.guard (xD eoN) cf (S N).ls (S N).env (S N).m=some [⟨.aL y,m'⟩]:=by rw[ap];exact b6
 have W:∀p i,c[p]?=some i->Dd p=true->p=N∨JH cz i iN:=by
  intro p;induction p using Nat.strongRecOn with
  |_ p ihp=>
   intro i g hd;have J:=(gB.1 g).1;let⟨x,O,am⟩:=C p J;rcases hPan.step p x O with⟨h,_⟩|⟨hNp,_,_,hw⟩;rw[hd]at h;cases h;rcases hw with h|h|⟨k,hk,q,hqp,hkq,hq⟩;exact .inl h;by_cases hpN':p=N;exact .inl hpN';let⟨eo,he⟩:=h;exact .inr (F.eff p i g (by rw[am];simp[K9,he]) N iN Zs a4);have bb:RG cz c X p i (.loc k):=by rcases hk with hk|⟨wt,hk⟩;exact F.opd p i g _ (by rw[am];exact hk);exact F.opdg p i _ wt g (by rw[am];exact hk)
   let⟨j,be,ag,av⟩:=bb;have e:p-1-k=q:=Zs
   rw[e]at ag;rcases ihp q hqp j ag hq with rfl|h;obtain rfl:=rW (ag.symm.trans a4);exact .inr av;exact .inr (av.trans h)
 have a5:∀(u:Nat) (listed:Array Bool) (V:Act) (w':cG) (K:Q0) (q:Nat),nV P G m.nx cz c X S ι m w a listed V w' K q->listed.getD iN false=false->Ed cz.size listed=u->
   wpAnyIn (FR r) 0 P .any cz Q u listed V w':=by
  intro u;induction u with
  |zero=>intro listed V w' K q D a7 f;exfalso;have:iN∈(List.range cz.size).filter λi=>!listed.getD i false:=ag4.2 ⟨akg.2 b7,by rw[a7];rfl⟩;rw[U1.1 f]at this;cases this
  |succ u ih=>
   intro listed V w' K q D a7 f;refine⟨λa1=>?_,λi T=>?_⟩
   ·
    exfalso;have af:∃p,p<c.length∧Lp c listed p=false:=by have:((List.range cz.size).filter λi=>!listed.getD i false)≠[]:=λe=>(by unfold Ed at f;rw[e]at f;cases f);let⟨i,T⟩:=axz _ this;let⟨U,M⟩:=ag4.1 T;let⟨p,g⟩:=adi (F.all i (akg.1 U));exact⟨p,(gB.1 g).1,by rw[pX g];simpa using M⟩
    have a0:∀N,(∃p,p<N∧p<c.length∧Lp c listed p=false)->∃p,p<c.length∧Lp c listed p=false∧∀q,q<p->Lp c listed q=true:=by
     intro N;induction N with
     |zero=>rintro⟨p,h,_⟩;omega
     |succ N ihN=>
      rintro⟨p,U,M,h3⟩;by_cases hx:∃p,p<N∧p<c.length∧Lp c listed p=false;exact ihN hx;refine⟨p,M,h3,λq hq=>?_⟩;cases hl:Lp c listed q with
      |true=>rfl
      |false=>exact cj ⟨q,Zs,Zs,hl⟩ hx
    let⟨p0,ai,aj⟩:=af;let⟨p,U,M,h3⟩:=a0 (p0+1) ⟨p0,Zs,ai,aj⟩;have g:=cB U;have I:c[p]∈Region.ready .any cz listed:=by let⟨o,A,_⟩:=F.inst p _ g;refine mem_ready.2 ⟨?_,o,A,λe he H=>?_⟩;rw[pX g]at M;have B:c[p]<listed.size:=(by rw[D.len];exact F.lt _ (ql U));rw[O6,ado B]at M ⊢;exact M;let⟨q',ak,al⟩:=F.edges p _ o g A e he H;have:=h3 q' ak;rw[pX al]at this;exact this
    rw[a1]at I;cases I
   let⟨z,o,A,hr⟩:=mem_ready.1 T;have B:i<listed.size:=by rw[D.len];exact(vo.1 A).1
   have z:listed.getD i false=false:=by rw[O6,ado B]at z ⊢;exact z
   by_cases hiN':i=iN;subst hiN';refine nV.aL ad F hb R a3 D a4 A z hr bd b2 (λp g J=>?_) λa6 w2 a8 ax ae=>?_;obtain⟨x,O,rfl⟩:=C p J;exact hPan.dst p _ g O;exact b3 _ (by rw[hout];exact lM.2 rfl) y rfl rfl a6 w2 V a8 ax ae D.defs D.sz;have au:∀j,JH cz i j->listed.getD j false=true:=λj hj=>hj.listed D.closed λo' az e he H=>by rw[A]at az;cases az;exact hr e he H
   refine nV.op ad F hb R a3 D A z hr (λp g=>?_) λa2 w2 a6 q2 D2=>?_;have J:=(gB.1 g).1;obtain⟨x,O,rfl⟩:=C p J;rcases hPan.step p _ O with⟨_,h⟩|⟨hNp,hDd,_,_⟩;exact h;exfalso;rcases W p i g hDd with rfl|h;exact hiN' (rW (g.symm.trans a4));have:=au _ h;rw[a7]at this;cases this;refine ih _ a2 w2 a6 q2 D2 ?_ ?_;rw[nG _ _ _ B,aE (aqR hiN')];exact a7;have:=MV D.len (by rw[← D.len];exact B) z;omega
 refine a5 _ _ a _ ι 0 ⟨ahe _,.inl rfl,λp g=>Zs,λp _ _=>E p,by rw[Y];exact ab,(λd i ac h=>by rw[E]at h;cases h),(λd d' i i' ac an _ h=>by rw[E]at h;cases h),
  (λd h=>by rw[E]at h;cases h),(λp g=>Zs),(λp i o t _ h=>by rw[v]at h;cases h),λt _=>rfl,rfl,rfl,(λi o h=>by rw[v]at h;cases h),ZZ⟩ (v _) ?_
 unfold Ed;rw[avr.2 (λi _=>by rw[v];rfl),axv]
end
variable {c:Op}
section
variable {P:cH}{G:cD}{ι:Q0}{n:Nm}{m:cD}{w:cG}{cr:cR}
def vF(ι:Q0):Option j5->FrameMode->Prop
 |some x,u=>u=.panicking [{v:=u7 ι x,recovered:=false}]
 |none,u=>u=.returning∨∃v,u=.panicking [{v,recovered:=true}]
def vF.settle{md:Option j5}{u:FrameMode}(h:vF ι md u):Go.settle u=Ce ι md:=by
 cases md with
 |some x=>obtain rfl:u=_:=h;rfl
 |none=>rcases h with rfl|⟨v,rfl⟩<;>rfl
def vF.of{a:Option j5}:vF ι a (Ce ι a):=by
 cases a with
 |some x=>rfl
 |none=>exact .inl rfl
def vF.step{ι':Q0}{d:cD}{w':cG}{a:Option j5}{u:FrameMode}(h:vF ι a u)(b:Fx ι m a)(c:Step P G ι m w ι' d w'):vF ι' a u:=by
 cases a with
 |some x=>have h:u=_:=h;have:=c.u7 (b x rfl);show u=.panicking [{v:=u7 ι' x,recovered:=false}];rw[this];exact h
 |none=>exact h
def YM(i:Inst)(l:List Inst)(cf:G6)(ls:cM)(env:T j5)(m:cD)(md:Option j5):
   yK (i::l) cf ls env m md=match isRec i with
    |true=>match md with
     |some x=>yK l cf (x::ls) (fA i.dst x env) m none
     |none=>yK l cf (.nilIface::ls) (fA i.dst .nilIface env) m none
    |false=>match i.op with
     |.p o=>ob (HV i.guard (qW o) ls env) λv=>yK l cf (v::ls) (fA i.dst v env) m md
     |.r o=>ob (Dg i.guard (xX o) ls env m) λv=>yK l cf (v::ls) (fA i.dst v env) m md
     |_=>none:=rfl
def Au{cz:Array Oper}{rest:cR}(f:cz[i]?=some o){b:List (Option Nat)}{ls:cM}{env:T j5}{a:Act}{cs:List Frame}{Q:Exit->Act->List Frame->cG->Prop}
   (s:St P ι n cr b ls env a.tmps) {g:Option (aS×Bool)} (e:qM cz b o.guard g) {v u:j5} (d:u=bi (xP g ls env) v .undef)
   (c:xP g ls env=true->(execOp a.eval o).run P w=.ok (.value (u7 ι v)) w) (h:wpOpsSIn Fence.wide 0 P cz Q rest (a.put o.dst (u7 ι u)) cs w):
   wpOpsSIn Fence.wide 0 P cz Q (i::rest) a cs w:=by
 simp only[wpOpsSIn,f];refine⟨λ_ _=>trivial,?_⟩;rw[qZ s e];cases hb:xP g ls env with
 |true=>rw[hb]at d;obtain rfl:u=v:=d;simp only[if_true];rw[c hb];exact h
 |false=>rw[hb]at d;obtain rfl:u=.undef:=d;rw[oJ]at h;simp only[agY,if_false];exact h
def adP(g:Option (aS×Bool))(f:PF)(ls:cM)(env:T j5):HV g f ls env=bi (xP g ls env) (f ls env) (some .undef):=by cases g<;>rfl
def adQ(g:Option (aS×Bool))(f:RF)(ls:cM)(env:T j5)(m:cD):Dg g f ls env m=bi (xP g ls env) (f ls env m) (some .undef):=by cases g<;>rfl
def ahq{a:List (Option Nat)}{d:POp}(h:.p d=rJ P cr a c):jT P cr a c=some (.p d):=by unfold rJ at h;split at h;rename_i e b;rw[b,← h];cases h
def ahr{a:List (Option Nat)}{d:TN}(h:.r d=rJ P cr a c):jT P cr a c=some (.r d):=by unfold rJ at h;split at h;rename_i e b;rw[b,← h];cases h
def aaL{a:List (Option Nat)}(h:.e .recover=rJ P cr a c):jT P cr a c=some (.e .recover):=by unfold rJ at h;split at h;rename_i d b;rw[b,← h];cases h
def aaM{i:Inst}(h:isRec i=true):i.op=.e .recover∧i.guard=none:=by unfold isRec at h;split at h;exact⟨by assumption,by assumption⟩;cases h
def UC{cf:G6}{cz:Array Oper}{U:Nat}(O:∀(i:Nat)(o:Oper)(t:Tmp),cz[i]?=some o->o.dst=some t->t<U){Q:Exit->Act->List Frame->cG->Prop}{c₀:Frame}{cs:List Frame}
   (hm:RM P G ι m w.heap):
   ∀(l:cR) (done:List (Option Nat)) (insts:List Inst),nk P cr cz done l=some insts->∀(ls:cM) (env:T j5) (md:Option j5) (u:FrameMode) (a:Act) (outs:List (EM×Option j5)),
    U<=a.tmps.size->St P ι (m.nm ι) cr done ls env a.tmps->Fx ι m md->vF ι md u->yK insts cf ls env m md=some outs->
    (∀r∈outs,∀u' a',r.1.m=m->dI ι (m.nm ι) cr r.1.env a'.tmps->a'.defers=a.defers->a'.tmps.size=a.tmps.size->Fx ι m r.2->vF ι r.2 u'->Q .normal a' ({c₀ with mode:=u'}::cs) w)->
    wpOpsSIn Fence.wide 0 P cz Q l a ({c₀ with mode:=u}::cs) w:=by
 intro l;induction l with
 |nil=>
  intro done insts M ls env md u a outs A s n f g N;simp only[nk,iE]at M;subst M;have g:some [((⟨env,m,none,[]⟩:EM),md)]=some outs:=by rw[← g,yK]
  cases g;exact N _ (lM.2 rfl) u a rfl s.env rfl rfl n f
 |cons i rest ih=>
  intro done insts M ls env md u a outs A s n f g N;obtain⟨x,d,l,hx,hl,rfl⟩:=tC M;obtain⟨o,C,rfl,L,h3,D⟩:=Ap hx;rw[YM]at g;have j:∀(v:j5) (z:Option j5) (u':FrameMode),v.lt (m.nm ι)->Fx ι m z->vF ι z u'->yK l cf (v::ls) (fA x.dst v env) m z=some outs->
    wpOpsSIn Fence.wide 0 P cz Q rest (a.put o.dst (u7 ι v)) ({c₀ with mode:=u'}::cs) w:=by
   intro v z u' R H B g;rw[h3]at g;have s':=s.put o.dst (λt ht=>aP (O i o t C ht) A) R;refine ih _ _ hl _ _ z u' (a.put o.dst (u7 ι v)) outs (by rw[kP];exact A) (by rw[(qL a o.dst (u7 ι v)).1];exact s') H B g ?_;intro r I S a' V W X Y Z e6;exact N r I S a' V W (by rw[X,(qL a o.dst _).2]) (Y.trans (kP a o.dst _)) Z e6
  cases I:isRec x with
  |true=>
   rw[I]at g;let⟨E,F⟩:=aaM I;rw[E]at L;rw[F]at D;have q:=aaL L;have hw:Region.wanted o (yielded cz a.tmps)=true:=by rw[qZ s D];rfl
   have K:(execOp a.eval o).run P w=.ok .recover w:=by
    cases ho:o.op with
    |call c=>
     rw[ho]at q;cases Dy q with
     |recover hcal=>simp[execOp,ho,resolve,hcal,invoke,builtin]
    |_=>rw[ho]at q;cases Dy q
   simp only[wpOpsSIn,C];refine⟨λ_ _=>trivial,?_⟩;rw[hw,cg rfl,K];cases md with
   |some y=>obtain rfl:u=.panicking [{v:=u7 ι y,recovered:=false}]:=f;exact j y none (.panicking [{v:=u7 ι y,recovered:=true}]) (n y rfl) (λ_ h=>by cases h) (.inr ⟨_,rfl⟩) g
   |none=>
    have J:recoverD ({c₀ with mode:=u}::cs)=none:=by rcases f with rfl|⟨v,rfl⟩<;>rfl
    show(match recoverD ({c₀ with mode:=u}::cs)with
     |some (v,cs')=>wpOpsSIn Fence.wide 0 P cz Q rest (a.put o.dst v) cs' w
     |none=>wpOpsSIn Fence.wide 0 P cz Q rest (a.put o.dst .nilIface) ({c₀ with mode:=u}::cs) w)
    rw[J];have:=j .nilIface none u trivial n f g;simp only[u7]at this;exact this
  |false=>
   rw[I]at g;let⟨op,dst,k⟩:=x;cases op with
   |p po=>
    have g:ob (HV k (qW po) ls env) (λv=>yK l cf (v::ls) (fA dst v env) m md)=some outs:=g;let⟨v,b,g⟩:=D7 g;rw[adP]at b;have q:=ahq L;cases hb:xP k ls env with
    |true=>rw[hb]at b;have b:qW po ls env=some v:=b;let⟨E,F⟩:=wE s q b;exact Au C s D (v:=v) (u:=v) (by rw[hb];rfl) (λ_=>F o rfl w) (j v md u E n f g)
    |false=>rw[hb]at b;obtain rfl:j5.undef=v:=rW b;exact Au C s D (v:=.undef) (u:=.undef) (by rw[hb];rfl) (λh=>by rw[hb]at h;cases h) (j .undef md u trivial n f g)
   |r ro=>
    have g:ob (Dg k (xX ro) ls env m) (λv=>yK l cf (v::ls) (fA dst v env) m md)=some outs:=g;let⟨v,b,g⟩:=D7 g;rw[adQ]at b;have q:=ahr L;cases hb:xP k ls env with
    |true=>rw[hb]at b;have b:xX ro ls env m=some v:=b;let⟨E,F⟩:=wF s hm (yY q) b;exact Au C s D (v:=v) (u:=v) (by rw[hb];rfl) (λ_=>F o rfl) (j v md u E n f g)
    |false=>rw[hb]at b;obtain rfl:j5.undef=v:=rW b;exact Au C s D (v:=.undef) (u:=.undef) (by rw[hb];rfl) (λh=>by rw[hb]at h;cases h) (j .undef md u trivial n f g)
   |a _=>cases g
   |e _=>cases g
def aaN(P:cH)(G:cD)(cr:cR)(nt:Nat)(cf:G6)(fuel:Nat)(c:Code)(ac:bM):Prop:=
 ∀(Q:Exit->Act->List Frame->cG->Prop) (env:T j5) (m:cD) (md:Option j5) (ι:Q0) (w:cG) (a:Act) (c₀:Frame) (cs:List Frame) (u:FrameMode) (outs:List Ue),
  RM P G ι m w.heap->dI ι (m.nm ι) cr env a.tmps->nt<=a.tmps.size->a.defers=[]->Fx ι m md->vF ι md u->Bj ac cf fuel env m md=some outs->
  (∀r∈outs,∀ι' w' a' u',Step P G ι m w ι' r.o.m w'->dI ι' (r.o.m.nm ι') cr r.o.env a'.tmps->a'.tmps.size=a.tmps.size->jW ι' r.o.m r.o.marks a'.defers->YA ι' r.o->Fx ι' r.o.m r.md->vF ι' r.md u'->Q (WT ι' r.o) a' ({c₀ with mode:=u'}::cs) w')->
  c.wpSIn Fence.wide 0 P Q a ({c₀ with mode:=u}::cs) w
def iH{y:Nat}{cf:G6}(l:uD P G cf)(b:Nat)(d:oK P G cr y cf none){c:Code}{ac:bM}(F:aT P cr c=some ac)(K:tmpsIn y c=true)
   (p:∀env m md,Bj ac cf b env m md=bnd (yJ ac cf b none env m []) λo=>some [⟨o,md⟩]):aaN P G cr y cf b c ac:=by
 intro Q env m md ι w a A N u C I n r f i j B E;rw[p]at B;let⟨L,s,H⟩:=fH B;refine wpSIn_of_wpIn rfl (wL l b d c ac F K _ none env m [] ι w a L I n r ⟨by rw[f];rfl,λ_ h=>by cases h⟩ ⟨rfl,λ_ h=>by cases h⟩ s ?_);intro o J z M D e g x q t;let⟨O,v,k⟩:=H o J;cases v;exact E _ (k _ (lM.2 rfl)) z M D u e g x q t (i.step e).1 (j.step i e)
def YO{nt:Nat}{cf:G6}(C:uD P G cf)(j:Nat)(i:oK P G cr nt cf none):∀(c:Code) (ac:bM),aT P cr c=some ac->tmpsIn nt c=true->aaN P G cr nt cf j c ac:=by
 intro c;induction c with
 |region id cz d=>
  intro ac f o;cases d with
  |true=>
   refine iH C j i f o ?_;have k:∃n l,ac=.dreg n l:=by simp only[aT]at f;unfold Gu at f;split at f;cases f;split at f;cases f;exact⟨_,_,rfl⟩;cases f
   obtain⟨n,l,rfl⟩:=k;exact λB m M=>rfl
  |false=>
   have a3:=f;simp only[aT]at f;split at f;rename_i H hi;cases f;cases hr:Jc H with
   |false=>refine iH C j i a3 o ?_;intro B m M;rw[Bj,hr]
   |true=>intro Q B m M ι w a p U u outs K E F q I A J N;rw[Bj,hr]at J;have J:bnd (yK H cf [] B m M) (λr=>some [⟨⟨.normal,r.1.env,r.1.m,[],none⟩,r.2⟩])=some outs:=J;let⟨os,T,hk⟩:=fH J;refine wpSIn_region (UC (uF o) K _ [] H hi [] B M u a os F (St.start K E) I A T ?_);intro r a4 u' V e1 e2 e3 e4 e5 e6;let⟨rs,a5,D⟩:=hk r a4;cases a5;let⟨⟨a1,Z,a8,a7⟩,a6⟩:=r;obtain rfl:Z=m:=e1;exact N _ (D _ (lM.2 rfl)) ι w V u' (Step.refl K) e2 e4 ⟨by rw[e3,q];rfl,λ_ h=>by cases h⟩ (fT rfl) e5 e6
   cases f
 |seq x y ihx ihy=>
  intro ac f o Q B m M ι w a p U u outs K E F q I A J N;simp only[tmpsIn,oo]at o;simp only[aT]at f;split at f;rename_i cx cy hx hy;cases f;rw[Bj]at J;let⟨os,T,hk⟩:=fH J;refine wpSIn_seq (ihx cx hx o.1 _ B m M ι w a p U u os K E F q I A T ?_);rintro⟨⟨x₀,env₀,m₀,k₀,pv₀⟩,md₀⟩ ho ι' w' V u' hst hen' hsz hmk' hpv hmd' hrel';let⟨os',v,D⟩:=hk _ ho;cases x₀ with
  |normal=>
   obtain rfl:pv₀=none:=pz hpv (by intro e;cases e);cases k₀ with
   |cons=>cases v
   |nil=>have v:Bj cy cf j env₀ m₀ md₀=some os':=v;refine ihy cy hy o.2 Q env₀ m₀ md₀ ι' w' V p U u' os' hst.rm hen' (by rw[hsz];exact F) hmk'.1 hmd' hrel' v ?_;intro r hr a0 aa a2 a9 X O Y S W R L;exact N r (D _ hr) a0 aa a2 a9 (hst.trans X) O (Y.trans hsz) S W R L
  |exit id=>obtain rfl:pv₀=none:=pz hpv (by intro e;cases e);cases v;exact N _ (D _ (lM.2 rfl)) ι' w' V u' hst hen' hsz hmk' hpv hmd' hrel'
  |ret=>cases v;have:=N _ (D _ (lM.2 rfl)) ι' w' V u' hst hen' hsz hmk' hpv hmd' hrel';cases pv₀<;>exact this
  cases f
 |cond c x y ihx ihy=>
  intro ac f o Q B m M ι w a p U u outs K E F q I A J N;simp only[tmpsIn,oo]at o;simp only[aT]at f;split at f;rename_i z cx cy hz hx hy;cases f;rw[Bj]at J;let⟨t,h1,J⟩:=uY J;let⟨e1,_⟩:=D9 (St.start K E) hz;refine wpSIn_cond (t:=t) (by rw[e1,h1];rfl) ?_;cases t with
  |true=>exact ihx cx hx o.1 Q B m M ι w a p U u outs K E F q I A J N
  |false=>exact ihy cy hy o.2 Q B m M ι w a p U u outs K E F q I A J N
  cases f
 |skip=>intro ac f o;simp only[aT,iE]at f;subst f;exact iH C j i rfl o λ_ _ _=>rfl
 |exit id=>intro ac f o;simp only[aT,iE]at f;subst f;exact iH C j i rfl o λ_ _ _=>rfl
 |ret=>intro ac f o;simp only[aT,iE]at f;subst f;exact iH C j i rfl o λ_ _ _=>rfl
 |block id x _=>
  intro ac f o;have k:∃y,ac=.block id y:=by simp only[aT]at f;split at f;cases f;exact⟨_,rfl⟩;cases f
  obtain⟨y,rfl⟩:=k;exact iH C j i f o λ_ _ _=>rfl
 |loop x _=>
  intro ac f o;have k:∃y,ac=.loop y:=by simp only[aT]at f;split at f;cases f;exact⟨_,rfl⟩;cases f
  obtain⟨y,rfl⟩:=k;exact iH C j i f o λ_ _ _=>rfl
 |rangeFunc g ps x y _ _=>
  intro ac f o;have k:∃a b c d,ac=.rangeFunc a b c d:=by simp only[aT]at f;split at f;cases f;exact⟨_,_,_,_,rfl⟩;cases f
  obtain⟨_,_,_,_,rfl⟩:=k;exact iH C j i f o λ_ _ _=>rfl
 |scope x ihx=>intro ac f;simp only[aT]at f;cases f
 |label l=>intro ac f;simp only[aT]at f;cases f
 |goto l=>intro ac f;simp only[aT]at f;cases f
 |refuse s=>intro ac f;simp only[aT]at f;cases f
def MW{K:Known}(k:∀f sf,K.fns f=some sf->sO P f sf){cf:G6}(y:uD P G cf)(b:Nat)(g:∀cr nt r,oK P G cr nt cf r):adG P G (Di K cf b):=by
 intro f C s m q h;let⟨sf,T,h⟩:=D7 h;let⟨A,cr,x,c,ac,rs,L,M,N,O,Q,R,S,F,H,I,e4,J⟩:=k f sf T;refine⟨A,λ{ι w} hm hargs hmd=>?_⟩;let⟨D,U,h⟩:=D7 h;obtain rfl:=J D U;let⟨u,E,h⟩:=D7 h;let⟨Z,B,W⟩:=fH h;rw[F,H]at E;let⟨q1,q2,q3⟩:=MR R S hargs E;refine callsDIn_of_wpSIn L M trivial λc₀ t Y=>?_;have e:({c₀ with mode:=Ce ι s}:Frame)=c₀:=by rw[← Y]
 rw[← e];refine YO y b (g cr x.ntmps none) c D N Q _ u m s ι w _ c₀ t (Ce ι s) Z hm q2 q3 rfl hmd vF.of B ?_;rintro⟨⟨x₀,env₀,m₀,k₀,pv₀⟩,md₀⟩ ho ι' w' a' u' hst hen' hsz hmk' hpv hmd' hrel';let⟨vs,a,o⟩:=W _ ho;have i:k₀=[]∧pv₀=none∧(∀id,x₀≠.exit id)∧∃l,results sf.results env₀ m₀=some l∧vs=[(m₀,md₀)]:=by
  have a:Uf sf.results ⟨⟨x₀,env₀,m₀,k₀,pv₀⟩,md₀⟩=some vs:=a;have p:ob (results sf.results env₀ m₀) (λ_=>some [(m₀,md₀)])=some vs->∃l,results sf.results env₀ m₀=some l∧vs=[(m₀,md₀)]:=by intro h;let⟨l,X,h⟩:=D7 h;cases h;exact⟨l,X,rfl⟩
  cases x₀ with
  |exit id=>cases k₀<;>cases pv₀<;>cases a
  |normal=>
   cases k₀ with
   |cons=>cases pv₀<;>cases a
   |nil=>
    cases pv₀ with
    |some=>cases a
    |none=>exact⟨rfl,rfl,(λid h=>by cases h),p a⟩
  |ret=>
   cases k₀ with
   |cons=>cases pv₀<;>cases a
   |nil=>
    cases pv₀ with
    |some=>cases a
    |none=>exact⟨rfl,rfl,(λid h=>by cases h),p a⟩
 obtain⟨rfl,rfl,z,l,d,rfl⟩:=i;rw[I]at d;let⟨r1,r2⟩:=Bz hst.rm hen' _ rs O l d;have V:a'.defers=[]:=hmk'.1;have n:(Go.results x a'.tmps).run P w'=.ok (u7 ι' (result l)) w':=by rw[MQ,JG,axy];simp only[wu,map_eq_pure_bind,bind_assoc,pure_bind];rw[r2];simp
 have j:a'.defers=[]∧∃u'',(({c₀ with mode:=u'}:Frame)::t)=({({c₀ with mode:=Ce ι s}:Frame)with mode:=u''}:Frame)::t∧∃v,(Go.results x a'.tmps).run P w'=.ok v w'∧
   ∃v',Ending.returned v=.returned v'∧∃r∈q,∃ι',Step P G ι m w ι' r.1 w'∧Fx ι' r.1 r.2∧settle u''=Ce ι' r.2:=
  ⟨V,u',rfl,_,n,_,rfl,(m₀,md₀),o _ (lM.2 rfl),ι',hst,hmd',hrel'.settle⟩
 cases x₀ with
 |normal=>exact j
 |ret=>exact j
 |exit id=>exact cj rfl (z id)
end
variable {lo:Nat}
section
variable {P:cH}{ι ι':Q0}{n n':Nm}{r:Nat->Option Nat}
def GK(ι:Q0)(n:Nm)(ι':Q0)(n':Nm)(r:Nat->Option Nat):Prop:=∀i j,r i=some j->n i->n' j∧ι' j=ι i∧n'.cap j=n.cap i
mutual
def rU(hr:GK ι n ι' n' r):∀(v v':j5),iT r v=some v'->v.lt n->u7 ι' v'=u7 ι v∧v'.lt n'
 |.undef,v',h,_|.bool _,v',h,_|.int _ _,v',h,_|.str _,v',h,_|.nilPtr,v',h,_|.nilSlice,v',h,_|.nilMap,v',h,_|.nilFunc,v',h,_|.nilIface,v',h,_=>by simp only[iT,iE]at h;subst h;simp[u7,j5.lt]
 |.ptr i o,v',h,hv=>by simp only[iT]at h;let⟨j,h1,h2⟩:=D7 h;cases h2;let⟨g1,g2,g3⟩:=hr i j h1 hv;exact⟨by simp[u7,Q0.at,g2],g1⟩
 |.slice i o l c,v',h,hv=>by simp only[iT]at h;let⟨j,h1,h2⟩:=D7 h;cases h2;let⟨g1,g2,g3⟩:=hr i j h1 hv;exact⟨by simp[u7,Q0.at,g2],g1⟩
 |.sliceU i o l c,v',h,hv=>by simp only[iT]at h;let⟨j,h1,h2⟩:=D7 h;cases h2;let⟨g1,g2,g3⟩:=hr i j h1 hv.1;exact⟨by simp[u7,Q0.at,g2],g1,hv.2.1,by rw[g3];exact hv.2.2⟩
 |.map i,v',h,hv=>by simp only[iT]at h;let⟨j,h1,h2⟩:=D7 h;cases h2;let⟨g1,g2,g3⟩:=hr i j h1 hv;exact⟨by simp[u7,g2],g1⟩
 |.func fn a b,v',h,hv=>by
  let⟨h1,h2,h3⟩:=hv;have key:∀v',(ob (pR r a) λx=>ob (pR r b) λy=>some (j5.func fn x y))=some v'->(∀l,fn≠.yield l)->u7 ι' v'=u7 ι (.func fn a b)∧v'.lt n':=by
   intro v' h hn;let⟨x,h4,h⟩:=D7 h;let⟨y,h5,h⟩:=D7 h;cases h;let⟨g1,g2⟩:=lZ hr a x h4 h2;let⟨g3,g4⟩:=lZ hr b y h5 h3;have e:lV ι' fn=lV ι fn:=by cases fn<;>first|rfl|exact cj rfl (hn _)
   refine⟨by simp[u7,g1,g3,e],?_,g2,g4⟩;cases fn<;>first|trivial|exact cj rfl (hn _)
  cases fn with
  |yield l=>simp only[iT]at h;cases h
  |func f=>exact key v' (by simpa only[iT]using h) ZZ
  |method f=>exact key v' (by simpa only[iT]using h) ZZ
  |methodOf f g=>exact key v' (by simpa only[iT]using h) ZZ
  |via f g x y=>exact key v' (by simpa only[iT]using h) ZZ
 |.iface t v,v',h,hv=>by simp only[iT]at h;let⟨x,h1,h2⟩:=D7 h;cases h2;let⟨g1,g2⟩:=rU hr v x h1 hv;exact⟨by simp[u7,g1],g2⟩
 |.agg l,v',h,hv=>by simp only[iT]at h;let⟨x,h1,h2⟩:=D7 h;cases h2;let⟨g1,g2⟩:=lZ hr l x h1 hv;exact⟨by simp[u7,g1],g2⟩
 |.tuple l,v',h,hv=>by simp only[iT]at h;let⟨x,h1,h2⟩:=D7 h;cases h2;let⟨g1,g2⟩:=lZ hr l x h1 hv;exact⟨by simp[u7,g1],g2⟩
 |.aL v,v',h,hv=>by simp only[j5.lt]at hv
def lZ(hr:GK ι n ι' n' r):∀(l l':cM),pR r l=some l'->fD n l->A9 ι' l'=A9 ι l∧fD n' l'
 |[],l',h,_=>by simp only[pR,iE]at h;subst h;simp[A9,fD]
 |v::l,l',h,hv=>by simp only[pR]at h;let⟨x,h1,h⟩:=D7 h;let⟨y,h2,h⟩:=D7 h;cases h;let⟨g1,g2⟩:=rU hr v x h1 hv.1;let⟨g3,g4⟩:=lZ hr l y h2 hv.2;exact⟨by simp[A9,g1,g3],g2,g4⟩
end
def GL(hr:GK ι n ι' n' r):∀(l l':List cM),nY r l=some l'->(∀x∈l,fD n x)->l'.length=l.length∧∀(i:Nat) x,l[i]?=some x->∃x',l'[i]?=some x'∧A9 ι' x'=A9 ι x∧fD n' x'
 |[],l',h,_=>by simp only[nY,iE]at h;subst h;simp
 |v::l,l',h,hv=>by
  simp only[nY]at h;let⟨x,h1,h⟩:=D7 h;let⟨y,h2,h⟩:=D7 h;cases h;let⟨g1,g2⟩:=lZ hr v x h1 (hv v ZZ);let⟨g3,g4⟩:=GL hr l y h2 (λx hx=>hv x (by simp[hx]));refine⟨by simp[g3],λi u hu=>?_⟩;cases i with
  |zero=>simp at hu;subst hu;exact⟨x,rfl,g1,g2⟩
  |succ i=>let⟨x',h3,h4⟩:=g4 i u (by simpa using hu);exact⟨x',by simpa using h3,h4⟩
def JM(hr:GK ι n ι' n' r):∀(l l':List (j5×j5)),HY r l=some l'->(∀e∈l,e.1.lt n∧e.2.lt n)->l'.length=l.length∧(∀k,L8 ι' l' k=L8 ι l k)∧∀e∈l',e.1.lt n'∧e.2.lt n'
 |[],l',h,_=>by simp only[HY,iE]at h;subst h;simp[L8]
 |e::l,l',h,hv=>by simp only[HY]at h;let⟨x,h1,h⟩:=D7 h;let⟨y,h2,h⟩:=D7 h;let⟨z,h3,h⟩:=D7 h;cases h;let⟨g1,g2⟩:=rU hr e.1 x h1 (hv e ZZ).1;let⟨g3,g4⟩:=rU hr e.2 y h2 (hv e ZZ).2;let⟨g5,g6,g7⟩:=JM hr l z h3 (λx hx=>hv x (by simp[hx]));refine⟨by simp[g5],λk=>by simp[L8,g1,g3,g6],λu hu=>?_⟩;rcases O4.1 hu with rfl|hu;exact⟨g2,g4⟩;exact g7 u hu
def YP{b:Y9}{nb:NB}(h:Bc b=some nb):jU b=false:=by cases b<;>first|rfl|(simp[Bc]at h)
def Cj(nb:NB):jU (fB nb)=false:=by cases nb<;>rfl
def JN{r:Nat->Option Nat}{b:Y9}{nb a:NB}(h:Bc b=some nb)(h':sM r nb=some a):bN (fB a)=bN b:=by
 cases b<;>simp only[Bc,iE,reduceCtorEq]at h
 subst h;simp only[sM,iE]at h';subst h';rfl;let⟨l,_,h⟩:=D7 h;cases h;simp only[sM]at h';let⟨x,_,h'⟩:=D7 h';cases h';rfl;subst h;simp only[sM]at h';let⟨x,_,h'⟩:=D7 h';cases h';rfl;subst h;simp only[sM]at h';let⟨x,_,h'⟩:=D7 h';cases h';rfl
def Pe(C:GK ι n ι' n' r){h:Array Obj}{l:Loc}{b:Y9}{nb w:NB}(hb:iF P ι n h l b)(hn:Bc b=some nb)(a:sM r nb=some w):iF P ι' n' h l (fB w):=by
 cases b<;>simp only[Bc,iE,reduceCtorEq]at hn
 subst hn;simp only[sM,iE]at a;subst a;exact trivial;rename_i rs k z;let⟨y,R,hn⟩:=D7 hn;cases hn;simp only[sM]at a;let⟨p,u,a⟩:=D7 a;cases a;let⟨c,e,M,s,t,⟨K,N,W,X⟩,G⟩:=hb;let⟨I,V⟩:=T.Ug _ _ _ _ R;have f:∀i x,y[i]?=some x->i<k∧z.get i=some x:=λi x o=>by
  have m:i<k:=by have:=(gB.1 o).1;omega
  have:=V i m;rw[P7,o]at this;exact⟨m,this⟩
 have B:∀x∈y,fD n x:=λx o=>by let⟨i,m⟩:=adi o;let⟨d,g⟩:=f i x m;let⟨F,A,D,E,q4⟩:=G i d;rw[g]at A;cases A;exact E
 let⟨d,g⟩:=GL C y p u B;refine⟨c,e,M,s,t,⟨by rw[K7,d,I];exact K,p.length,(by rw[K7];exact aA _),T.kL p⟩,λi m=>?_⟩;rw[K7,d,I]at m;have o:y[i]?=some (y[i]'Zs):=cB Zs;let⟨J,A,D,E⟩:=g i _ o;let⟨_,Q⟩:=f i _ o;let⟨F,H,Y,Z,U⟩:=G i m;rw[Q]at H;cases H;have v:J.length=rs:=by have:=ci List.length D;simp only[dN]at this;omega
 refine⟨J,by rw[T.bV];exact A,v,E,λj S=>?_⟩;rw[U j S,← eU,← eU,D];subst hn;simp only[sM]at a;let⟨L,u,a⟩:=D7 a;cases a;let⟨s,t⟩:=hb;let⟨d,g,O⟩:=JM C _ _ u t;exact⟨by rw[g,d];exact s,O⟩;subst hn;simp only[sM]at a;let⟨q,u,a⟩:=D7 a;cases a;let⟨s,t⟩:=hb;let⟨d,g,_⟩:=C _ _ u s;exact⟨d,by rw[g];exact t⟩
mutual
def vG{r1 r2:Nat->Option Nat}:∀(v u t:j5),iT r1 v=some u->iT r2 u=some t->iT (λi=>ob (r1 i) r2) v=some t
 |.undef,u,t,h,h'|.bool _,u,t,h,h'|.int _ _,u,t,h,h'|.str _,u,t,h,h'|.nilPtr,u,t,h,h'|.nilSlice,u,t,h,h'|.nilMap,u,t,h,h'|.nilFunc,u,t,h,h'|.nilIface,u,t,h,h'=>by simp only[iT,iE]at h;subst h;simpa only[iT]using h'
 |.ptr i o,u,t,h,h'|.slice i o _ _,u,t,h,h'|.sliceU i o _ _,u,t,h,h'|.map i,u,t,h,h'=>by simp only[iT]at h;let⟨j,h1,h2⟩:=D7 h;cases h2;simp only[iT]at h' ⊢;let⟨k,h3,h4⟩:=D7 h';rw[h1,I6,h3];exact h4
 |.func fn a b,u,t,h,h'=>by
  cases fn with
  |yield l=>simp only[iT]at h;cases h
  |_=>simp only[iT]at h;let⟨x,h1,h⟩:=D7 h;let⟨y,h2,h⟩:=D7 h;cases h;simp only[iT]at h' ⊢;let⟨x',h3,h'⟩:=D7 h';let⟨y',h4,h'⟩:=D7 h';rw[vH a x x' h1 h3,I6,vH b y y' h2 h4];exact h'
 |.iface ty v,u,t,h,h'=>by simp only[iT]at h;let⟨x,h1,h⟩:=D7 h;cases h;simp only[iT]at h' ⊢;let⟨x',h3,h'⟩:=D7 h';rw[vG v x x' h1 h3];exact h'
 |.aL v,u,t,h,h'=>by simp only[iT]at h;cases h
 |.agg l,u,t,h,h'|.tuple l,u,t,h,h'=>by simp only[iT]at h;let⟨x,h1,h⟩:=D7 h;cases h;simp only[iT]at h' ⊢;let⟨x',h3,h'⟩:=D7 h';rw[vH l x x' h1 h3];exact h'
def vH{r1 r2:Nat->Option Nat}:∀(v u t:cM),pR r1 v=some u->pR r2 u=some t->pR (λi=>ob (r1 i) r2) v=some t
 |[],u,t,h,h'=>by simp only[pR,iE]at h;subst h;simpa only[pR]using h'
 |v::l,u,t,h,h'=>by simp only[pR]at h;let⟨x,h1,h⟩:=D7 h;let⟨y,h2,h⟩:=D7 h;cases h;simp only[pR]at h' ⊢;let⟨x',h3,h'⟩:=D7 h';let⟨y',h4,h'⟩:=D7 h';rw[vG v x x' h1 h3,I6,vH l y y' h2 h4];exact h'
end
def JO{r1 r2:Nat->Option Nat}:∀(v u t:List cM),nY r1 v=some u->nY r2 u=some t->nY (λi=>ob (r1 i) r2) v=some t
 |[],u,t,h,h'=>by simp only[nY,iE]at h;subst h;simpa only[nY]using h'
 |v::l,u,t,h,h'=>by simp only[nY]at h;let⟨x,h1,h⟩:=D7 h;let⟨y,h2,h⟩:=D7 h;cases h;simp only[nY]at h' ⊢;let⟨x',h3,h'⟩:=D7 h';let⟨y',h4,h'⟩:=D7 h';rw[vH v x x' h1 h3,I6,JO l y y' h2 h4];exact h'
def MX{r1 r2:Nat->Option Nat}:∀(v u t:List (j5×j5)),HY r1 v=some u->HY r2 u=some t->HY (λi=>ob (r1 i) r2) v=some t
 |[],u,t,h,h'=>by simp only[HY,iE]at h;subst h;simpa only[HY]using h'
 |e::l,u,t,h,h'=>by simp only[HY]at h;let⟨x,h1,h⟩:=D7 h;let⟨y,h2,h⟩:=D7 h;let⟨z,h3,h⟩:=D7 h;cases h;simp only[HY]at h' ⊢;let⟨x',h4,h'⟩:=D7 h';let⟨y',h5,h'⟩:=D7 h';let⟨z',h6,h'⟩:=D7 h';rw[vG e.1 x x' h1 h4,I6,vG e.2 y y' h2 h5,I6,MX l z z' h3 h6];exact h'
def YQ{d e:Nat->Option Nat}{v u t:NB}(h:sM d v=some u)(h':sM e u=some t):sM (λi=>ob (d i) e) v=some t:=by
 cases v<;>simp only[sM]at h
 let⟨x,a,h⟩:=D7 h;cases h;simp only[sM]at h' ⊢;let⟨c,b,h'⟩:=D7 h';rw[JO _ x c a b];exact h';let⟨x,a,h⟩:=D7 h;cases h;simp only[sM]at h' ⊢;let⟨c,b,h'⟩:=D7 h';rw[MX _ x c a b];exact h';let⟨x,a,h⟩:=D7 h;cases h;simp only[sM]at h' ⊢;let⟨c,b,h'⟩:=D7 h';rw[a,I6,b];exact h';cases h;exact h'
def Av{r:Nat->Option Nat}:∀(l l':List NB),xE r l=some l'->l'.length=l.length∧∀(i:Nat) x,l'[i]?=some x->∃y,l[i]?=some y∧sM r y=some x
 |[],l',h=>by simp only[xE,iE]at h;subst h;simp
 |v::l,l',h=>by
  simp only[xE]at h;let⟨x,h1,h⟩:=D7 h;let⟨y,h2,h⟩:=D7 h;cases h;let⟨g1,g2⟩:=Av l y h2;refine⟨by simp[g1],λi u hu=>?_⟩;cases i with
  |zero=>simp at hu;subst hu;exact⟨v,rfl,h1⟩
  |succ i=>let⟨z,h3,h4⟩:=g2 i u (by simpa using hu);exact⟨z,by simpa using h3,h4⟩
mutual
def Ii(lo:Nat):∀(v:j5),∀i∈LC lo v,lo<=i
 |.ptr i _,j,h|.slice i _ _ _,j,h|.sliceU i _ _ _,j,h|.map i,j,h=>by
  simp only[LC]at h;cases hb:ble lo i with
  |true=>rw[hb]at h;obtain rfl:=lM.1 h;exact D5 hb
  |false=>rw[hb]at h;cases h
 |.func fn a b,j,h=>by simp only[LC]at h;rcases LA.1 h with h|h;exact Aw lo a j h;exact Aw lo b j h
 |.iface _ v,j,h=>by simp only[LC]at h;exact Ii lo v j h
 |.agg l,j,h|.tuple l,j,h=>by simp only[LC]at h;exact Aw lo l j h
 |.undef,j,h|.bool _,j,h|.int _ _,j,h|.str _,j,h|.nilPtr,j,h|.nilSlice,j,h|.nilMap,j,h|.nilFunc,j,h|.nilIface,j,h|.aL _,j,h=>by simp only[LC]at h;cases h
def Aw(lo:Nat):∀(l:cM),∀i∈sK lo l,lo<=i
 |[],j,h=>by simp only[sK]at h;cases h
 |v::l,j,h=>by simp only[sK]at h;rcases LA.1 h with h|h;exact Ii lo v j h;exact Aw lo l j h
end
def RN(lo:Nat):∀(l:List cM),∀i∈QI lo l,lo<=i
 |[],j,h=>by simp only[QI]at h;cases h
 |v::l,j,h=>by simp only[QI]at h;rcases LA.1 h with h|h;exact Aw lo v j h;exact RN lo l j h
def WV(lo:Nat):∀(l:List (j5×j5)),∀i∈aae lo l,lo<=i
 |[],j,h=>by simp only[aae]at h;cases h
 |e::l,j,h=>by simp only[aae]at h;rcases LA.1 h with h|h;exact Ii lo _ j h;rcases LA.1 h with h|h;exact Ii lo _ j h;exact WV lo l j h
def adR(lo:Nat)(b:NB):∀i∈QJ lo b,lo<=i:=by
 intro i h;cases b with
 |cells rs cF=>exact RN lo cF i h
 |map es=>exact WV lo es i h
 |tail p=>
  simp only[QJ]at h;cases hb:ble lo p with
  |true=>rw[hb]at h;obtain rfl:=lM.1 h;exact D5 hb
  |false=>rw[hb]at h;cases h
 |dead=>cases h
def Good(m:cD)(lo:Nat)(l:List (Nat×NB)):Prop:=(∀p∈l,lo<=p.1∧∃b,m.get p.1=some b∧Bc b=some p.2)∧(l.map (·.1)).Nodup
def JQ(n:Nat):∀l:List (Nat×NB),Ml n l=true∨n∉l.map (·.1)
 |[]=>.inr ZZ
 |x::l=>by
  show bi (beq x.1 n) true (Ml n l)=true∨_;cases hb:beq x.1 n with
  |true=>exact .inl rfl
  |false=>rcases JQ n l with h|h;exact .inl h;refine .inr λhm=>?_;rcases O4.1 (by simpa using hm:n∈x.1::l.map (·.1))with h1|h1;rw[h1,ah6]at hb;cases hb;exact h h1
def UD{m:cD}:∀(k:Nat) (work:cR) (seen out:List (Nat×NB)),(∀i∈work,lo<=i)->Good m lo seen->reach m lo k work seen=some out->Good m lo out:=by
 intro k;induction k with
 |zero=>intro work seen out _ _ h;cases h
 |succ k ih=>
  intro work seen out f c h;cases work with
  |nil=>have h:some seen.reverse=some out:=h;cases h;exact⟨λp d=>c.1 p (axG.1 d),by rw[List.map_reverse];exact List.pairwise_reverse.2 (c.2.imp λh e=>h e.symm)⟩
  |cons i work=>
   have h:bi (Ml i seen) (reach m lo k work seen) (ob (m.get i) λb=>ob (Bc b) λg=>reach m lo k (QJ lo g++work) ((i,g)::seen))=some out:=h;rcases JQ i seen with h1|h1;rw[h1]at h;exact ih work seen out (λj a=>f j (by simp[a])) c h;cases hb:Ml i seen with
   |true=>rw[hb]at h;exact ih work seen out (λj a=>f j (by simp[a])) c h
   |false=>rw[hb]at h;let⟨b,l,h⟩:=D7 h;let⟨g,n,h⟩:=D7 h;refine ih _ _ out (λj a=>?_) ⟨λp d=>?_,?_⟩ h;rcases LA.1 a with a|a;exact adR lo g j a;exact f j (by simp[a]);rcases O4.1 d with rfl|d;exact⟨f i ZZ,b,l,n⟩;exact c.1 p d;rw[afp];exact aw0.2 ⟨h1,c.2⟩
def Ee(i:Nat):∀(l:cR) (k j:Nat),placeOf i l k=some j->k<=j∧l[j-k]?=some i
 |[],k,j,h=>by cases h
 |x::l,k,j,h=>by
  have h:bi (beq x i) (some k) (placeOf i l (k+1))=some j:=h;cases hb:beq x i with
  |true=>rw[hb]at h;cases h;rw[nA hb];simp
  |false=>rw[hb]at h;let⟨h1,h2⟩:=Ee i l (k+1) j h;exact⟨Zs,by rw[show j-k=(j-(k+1))+1 from by omega];simpa using h2⟩
def MZ{a:cR}(h:uq lo a i=some j):(i<lo∧j=i)∨(lo<=i∧lo<=j∧a[j-lo]?=some i):=by
 unfold uq at h;cases hb:ble lo i with
 |true=>rw[hb]at h;let⟨b,c⟩:=Ee i a lo j h;exact .inr ⟨D5 hb,b,c⟩
 |false=>rw[hb]at h;have h:some i=some j:=h;cases h;exact .inl ⟨Nat.lt_of_not_le (MI hb),rfl⟩
def wM{m:cD}{vs:cM}{c:CO}(h:kK lo vs m=some c):∃seen,Good m lo seen∧c.ids=seen.map (·.1)∧pR (uq lo c.ids) vs=some c.vs∧xE (uq lo c.ids) (seen.map (·.2))=some c.bs:=by let⟨seen,a,h⟩:=D7 h;let⟨e,b,h⟩:=D7 h;let⟨bs,d,h⟩:=D7 h;cases h;exact⟨seen,UD _ _ _ _ (Aw lo vs) ⟨(λp (hp:p∈([]:List (Nat×NB)))=>by cases hp),(by simp:(([]:List (Nat×NB)).map (·.1)).Nodup)⟩ a,rfl,b,d⟩
def RO(b:NB)(a:List NB)(m:cD):layAll (b::a) m=layAll a (m.new (fB b)):=rfl
def tF:∀(bs:List NB) (m:cD),T.Ok m.t m.nx->T.Ok (layAll bs m).t (layAll bs m).nx∧(layAll bs m).nx=m.nx+bs.length∧(layAll bs m).lim=m.lim∧
   ∀i,(layAll bs m).get i=if i<m.nx then m.get i else(bs[i-m.nx]?).map fB
 |[],m,h=>by
  refine⟨h,rfl,rfl,λi=>?_⟩;show m.get i=_;split;rfl;rename_i hi;cases hg:m.get i with
  |none=>simp
  |some x=>exact cj (cD.Q9 h hg) hi
 |b::bs,m,h=>by let⟨h1,h2,h3,h4⟩:=tF bs (m.new (fB b)) (h.push _);rw[RO];refine⟨h1,by rw[h2];simp;omega,h3,λi=>?_⟩;rw[h4,cD.QU,cD.Q5 h];by_cases hi:i<m.nx;rw[cg Zs,aE Zs,cg hi];by_cases he:i=m.nx;subst he;rw[cg Zs,cg rfl,aE Zs];simp;rw[aE Zs,aE hi,show i-m.nx=(i-(m.nx+1))+1 from by omega];simp
end
section
variable {P:cH}{G:cD}{ι:Q0}{m:cD}{w:cG}
structure Pf(G:cD)(Ny:List NB):Prop where
 ok:T.Ok G.t G.nx
 len:Ny.length=G.nx
 get:∀i,i<G.nx->G.get i=(Ny[i]?).map fB
 shut:∀nb∈Ny,sM (λi=>bi (blt i G.nx) (some i) none) nb=some nb
noncomputable abbrev Q7 (G:cD)(bs:List NB):cD:=(layAll bs G).shut
def lI(P:cH)(G:cD)(f:FuncId)(args:cM)(bs:List NB)(a:EK):Prop:=
 ∀(ι:Q0) (w:cG),RM P G ι (Q7 G bs) w.heap->fD ((Q7 G bs).nm ι) args->
  CallsIn Fence.wide 0 P f (A9 ι args).toArray w λe w'=>∃ι' r,Step P G ι (Q7 G bs) w ι' r.m w'∧r.v.lt (r.m.nm ι')∧e=.returned (u7 ι' r.v)∧Bh (layAll bs G).nx r=some a
def GN:∀a b:List cM,EZ a b=true->a=b
 |[],[],_=>rfl
 |[],_ :: _,h=>by simp only[EZ]at h;cases h
 |_ :: _,[],h=>by simp only[EZ]at h;cases h
 |x::a,y::b,h=>by simp only[EZ]at h;let⟨h1,h2⟩:=jO h;rw[oL (lX 100) _ _ h1,GN a b h2]
def JR:∀a b:List (j5×j5),Mq a b=true->a=b
 |[],[],_=>rfl
 |[],_ :: _,h=>by simp only[Mq]at h;cases h
 |_ :: _,[],h=>by simp only[Mq]at h;cases h
 |x::a,y::b,h=>by simp only[Mq]at h;let⟨h1,h2⟩:=jO h;let⟨h2,h3⟩:=jO h2;have e1:=lX 100 _ _ h1;have e2:=lX 100 _ _ h2;let⟨x1,x2⟩:=x;let⟨y1,y2⟩:=y;have e1:x1=y1:=e1;have e2:x2=y2:=e2;rw[e1,e2,JR a b h3]
def UE:∀a b:NB,bX a b=true->a=b:=by
 intro a b h;cases a<;>cases b<;>simp only[bX]at h<;>first|(cases h;done)|skip
 let⟨c,d⟩:=jO h;rw[nA c,GN _ _ d];rw[JR _ _ h];rw[nA h];rfl
def tH:∀a b:List NB,oD a b=true->a=b
 |[],[],_=>rfl
 |[],_ :: _,h=>by simp only[oD]at h;cases h
 |_ :: _,[],h=>by simp only[oD]at h;cases h
 |x::a,y::b,h=>by simp only[oD]at h;let⟨h1,h2⟩:=jO h;rw[UE _ _ h1,tH a b h2]
def zx{lo:Nat}:∀(l:List VM) (a:EK),Oq lo l=some a->∀r∈l,Bh lo r=some a
 |[],a,h,r,hr=>by cases hr
 |[x],a,h,r,hr=>by obtain rfl:=lM.1 hr;let⟨b,h1,h2⟩:=D7 h;have h2:some b=some a:=h2;cases h2;exact h1
 |x::y::l,a,h,r,hr=>by let⟨b,h1,h2⟩:=D7 h;have h2:(ob (Oq lo (y::l)) λc=>bi (bg 100 b.v c.v) (bi (oD b.bs c.bs) (some b) none) none)=some a:=h2;let⟨c,h3,h2⟩:=D7 h2;let⟨h4,h2⟩:=K4 h2;let⟨h5,h2⟩:=K4 h2;have h2:some b=some a:=h2;cases h2;rcases O4.1 hr with rfl|hr;exact h1;have:=zx (y::l) c h3 r hr;rw[this];have e1:=lX 100 _ _ h4;have e2:=tH _ _ h5;let⟨av,ab⟩:=a;let⟨cv,cb⟩:=c;have e1:av=cv:=e1;have e2:ab=cb:=e2;rw[e1,e2]
def UF{cf:G6}(i:uD P G cf){g:ni}(o:adG P G g)(j:P.follows .mixedOrders=true)(b:Nat){f:FuncId}{sf:L6}(hf:sO P f sf){args:cM}{k:List NB}{a:EK}
   (h:(ob (dD cf g b sf args (Q7 G k)) λl=>Oq (layAll k G).nx l)=some a):lI P G f args k a:=by
 intro ι w z c;let⟨l,t,p⟩:=D7 h;refine(Rz i o b (λd A r=>rT j i d A r) hf t z c).mono ?_;rintro e w' (⟨v,rfl,r,hr,ι',g1,g2,rfl⟩|⟨r,hr,x,ι',hx,_⟩);exact⟨ι',r,g1,g2,rfl,zx l a p r hr⟩;exfalso;have u:=zx l a p r hr;let⟨B,n,_⟩:=D7 u;let⟨s,_,_,m,_⟩:=wM n;rw[hx]at m;simp only[pR]at m;let⟨y,q,_⟩:=D7 m;simp only[iT]at q;cases q
def Ef(l:List α):(T.ofList l).slice l.length 0=some l:=by
 have a:∀(k i:Nat),i+k=l.length->(T.ofList l).slice k i=some (l.drop i):=by
  intro k;induction k with
  |zero=>intro i h;rw[T.Jg,su Zs]
  |succ k ih=>
   intro i h;have b:i<l.length:=Zs
   rw[T.BQ,T.bV,cB b,I6,ih (i+1) Zs,I6,List.getElem_cons_drop]
 exact a l.length 0 Zs
def UG(nb:NB):Bc (fB nb)=some nb:=by
 cases nb with
 |cells rs cF=>show(ob ((T.ofList cF).slice (len' cF) 0) λl=>some (NB.cells rs l))=_;rw[K7,Ef];rfl
 |map es=>rfl
 |tail p=>rfl
 |dead=>rfl
def jq(g:Nat)(ι:Q0)(ids:cR):Q0:=λi=>if i<g then ι i else ι (ids.getD (i-g) 0)
def adS(J:∃Ny,Pf G Ny)(u:RM P G ι m w.heap){vs:cM}{c:CO}(hc:kK G.nx vs m=some c)(U:fD (m.nm ι) vs):
   RM P G (jq G.nx ι c.ids) (Q7 G c.bs) w.heap∧fD ((Q7 G c.bs).nm (jq G.nx ι c.ids)) c.vs∧A9 (jq G.nx ι c.ids) c.vs=A9 ι vs∧c.bs.length=c.ids.length∧
    (∀(k i:Nat),c.ids[k]?=some i->G.nx<=i∧m.has i)∧(∀i,G.nx<=i->i<(Q7 G c.bs).nx->∃j,c.ids[i-G.nx]?=some j):=by
 let⟨Ny,J⟩:=J;let⟨N,⟨R,a0⟩,r,O,h4⟩:=wM hc;let⟨Y,l2,l3,l4⟩:=tF c.bs G J.ok;let⟨b1,b2⟩:=Av _ _ h4;have B:c.bs.length=c.ids.length:=by rw[b1,r];simp
 have h:∀(k i:Nat),c.ids[k]?=some i->G.nx<=i∧∃b z nb',m.get i=some b∧Bc b=some z∧c.bs[k]?=some nb'∧sM (uq G.nx c.ids) z=some nb':=by
  intro k i n;rw[r,abP]at n;cases hp:N[k]? with
  |none=>rw[hp]at n;cases n
  |some p=>
   rw[hp]at n;have n:p.1=i:=rW n;let⟨C,b,D,A⟩:=R p (O5 hp);rw[n]at C D;have L:k<c.bs.length:=by rw[B,r,ahP];exact(gB.1 hp).1
   let⟨y,E,Z⟩:=b2 k _ (cB L);rw[abP,hp]at E;have E:p.2=y:=rW E;rw[← E]at Z;exact⟨C,b,p.2,_,D,A,cB L,Z⟩
 have f:∀i,(Q7 G c.bs).get i=if i<G.nx then G.get i else(c.bs[i-G.nx]?).map fB:=l4
 have v:(Q7 G c.bs).nx=G.nx+c.bs.length:=l2;have d:∀i,i<G.nx->m.get i=G.get i:=u.base;have F:∀k i,c.ids[k]?=some i->jq G.nx ι c.ids (G.nx+k)=ι i:=by intro k i n;unfold jq;rw[aE Zs,show G.nx+k-G.nx=k from by omega,O0,n];rfl
 have o:∀i,i<G.nx->jq G.nx ι c.ids i=ι i:=λi g=>cg g;have X:GK ι (m.nm ι) (jq G.nx ι c.ids) ((Q7 G c.bs).nm (jq G.nx ι c.ids)) (uq G.nx c.ids):=by intro i j s ⟨y,hy,hyv⟩;rcases MZ s with⟨l,rfl⟩|⟨l,I,O⟩;refine⟨⟨y,?_,hyv⟩,o _ l,ci Loc.cap (o _ l)⟩;rw[f,cg l,← d _ l];exact hy;have e:=F (j-G.nx) i O;rw[show G.nx+(j-G.nx)=j from by omega]at e;let⟨_,_,_,nb',_,_,q,_⟩:=h (j-G.nx) i O;refine⟨⟨fB nb',?_,Cj nb'⟩,e,ci Loc.cap e⟩;rw[f,aE Zs,q];rfl
 have T:GK ι (m.nm ι) (jq G.nx ι c.ids) ((Q7 G c.bs).nm (jq G.nx ι c.ids)) (λi=>bi (blt i G.nx) (some i) none):=by intro i j s ⟨y,hy,hyv⟩;have s:bi (blt i G.nx) (some i) none=some j:=s;let⟨l,I⟩:=K4 s;cases I;have l:i<G.nx:=Eq.mp O8 l;refine⟨⟨y,?_,hyv⟩,o _ l,ci Loc.cap (o _ l)⟩;rw[f,cg l,← d _ l];exact hy
 let⟨v1,v2⟩:=lZ X vs c.vs O U;have H:∀i x,(Q7 G c.bs).get i=some x->bN x=true->(jq G.nx ι c.ids i).spot=none:=by
  intro i b a M;rw[f]at a;split at a;rename_i g;rw[o i g];exact u.spot i b (by rw[d i g];exact a) M;rename_i g;cases hnb:c.bs[i-G.nx]? with
  |none=>rw[hnb]at a;cases a
  |some z=>
   rw[hnb]at a;have a:fB z=b:=rW a;subst a;have n:i-G.nx<c.ids.length:=by have:=(gB.1 hnb).1;omega
   have t:=cB n;let⟨_,bb,W,nb',C,D,A,E⟩:=h _ _ t;rw[hnb]at A;cases A;have e:=F (i-G.nx) _ t;rw[show G.nx+(i-G.nx)=i from by omega]at e;rw[e];exact u.spot _ _ C (by rw[← JN D E];exact M)
 refine⟨⟨Y,?_,λi x g V=>?_,?_,aA _,u.gle,λi g=>by rw[f,cg g],λi g=>?_,λi g=>?_,λi x V hl=>?_,u.gsz⟩,v2,v1,B,λk i n=>?_,λi l I=>?_⟩;intro i b a;rw[f]at a;split at a;rename_i g;rw[o i g];have S:m.get i=some b:=by rw[d i g];exact a
 have Q:=u.blk i b S;rw[J.get i g]at a;cases hnb:Ny[i]? with
 |none=>rw[hnb]at a;cases a
 |some z=>rw[hnb]at a;have a:fB z=b:=rW a;subst a;exact Pe T Q (UG z) (J.shut z (O5 hnb))
 rename_i g;cases hnb:c.bs[i-G.nx]? with
 |none=>rw[hnb]at a;cases a
 |some z=>
  rw[hnb]at a;have a:fB z=b:=rW a;subst a;have n:i-G.nx<c.ids.length:=by have:=(gB.1 hnb).1;omega
  have t:=cB n;let⟨_,bb,W,nb',C,D,A,E⟩:=h _ _ t;rw[hnb]at A;cases A;have e:=F (i-G.nx) _ t;rw[show G.nx+(i-G.nx)=i from by omega]at e;rw[e];exact Pe X (u.blk _ _ C) D E
 have:=cD.Q9 (m:=Q7 G c.bs) Y V;have g:(Q7 G c.bs).nx<=i:=g;omega;show G.nx<=(Q7 G c.bs).nx;rw[v];omega;let⟨y,l,I⟩:=u.ghas i g;have K:i<G.nx:=aP g u.gle;exact⟨y,by rw[f,cg K,← d i K];exact l,I⟩;rw[o i (aP g u.gle)];exact u.glob i g;exact H i x V hl;let⟨C,b,z,_,D,A,_⟩:=h k i n;exact⟨C,b,D,YP A⟩;rw[v]at I;exact⟨_,cB Zs⟩
def jd(next:Nat)(ι ι2:Q0)(ids:cR):Q0:=λi=>if i<next then ι i else ι2 (ids.getD (i-next) 0)
def GQ{g b:Nat}{a:cR}(h:iU g a b i=some j):
   (i<g∧j=i)∨(g<=i∧i-g<a.length∧a[i-g]?=some j)∨(g+a.length<=i∧j=b+(i-g-a.length)):=by
 unfold iU at h;rw[K7]at h;cases c:blt i g with
 |true=>rw[c]at h;have h:some i=some j:=h;cases h;exact .inl ⟨Eq.mp O8 c,rfl⟩
 |false=>
  rw[c]at h;have c:=vC c;cases d:blt (Nat.sub i g) a.length with
  |true=>rw[d]at h;have h:vU (i-g) a=some j:=h;rw[nu]at h;exact .inr (.inl ⟨c,Eq.mp O8 d,h⟩)
  |false=>rw[d]at h;have d:a.length<=i-g:=vC d;have h:some (b+(i-g-a.length))=some j:=h;cases h;exact .inr (.inr ⟨Zs,rfl⟩)
def RP(hB:∃Ny,Pf G Ny){f:FuncId}{args:cM}{c:CO}{a:EK}{v:j5}{F:List NB}(E:RM P G ι m w.heap)(a2:fD (m.nm ι) args)(hc:kK G.nx args m=some c)(ha:lI P G f c.vs c.bs a)
   (hv:iT (iU G.nx c.ids m.nx) a.v=some v) (ag:xE (iU G.nx c.ids m.nx) a.bs=some F):
   CallsIn Fence.wide 0 P f (A9 ι args).toArray w (fG P G ι m w [⟨v,layAll F m⟩]):=by
 have a5:T.Ok G.t G.nx:=by let⟨Ny,hB⟩:=hB;exact hB.ok
 let⟨ab,X,a3,a9,a6,ao⟩:=adS hB E hc a2;have N:=ha (jq G.nx ι c.ids) w ab X;rw[a3]at N;refine N.mono ?_;rintro e w' ⟨ι2,r,hst,hrv,rfl,C⟩;let⟨g,ah,C⟩:=D7 C;let⟨ad,⟨ai,aj⟩,R,J,Y⟩:=wM ah;have an:∃u,g.vs=[u]∧iT (uq (layAll c.bs G).nx g.ids) r.v=some u:=by simp only[pR]at J;let⟨x,W,J⟩:=D7 J;let⟨y,h6,J⟩:=D7 J;cases h6;have J:some [x]=some g.vs:=J;exact⟨x,(rW J).symm,W⟩
 let⟨u,hu,am⟩:=an;rw[hu]at C;have C:some (⟨u,g.bs⟩:EK)=some a:=C;cases C;let⟨b1,b2⟩:=Av _ _ Y;let⟨b3,b4⟩:=Av _ _ ag;let⟨l1,l2,l3,l4⟩:=tF c.bs G a5;let⟨k1,k2,k3,k4⟩:=tF F m E.ok;have au:(Q7 G c.bs).lim=(layAll c.bs G).nx:=rfl;have ae:(layAll c.bs G).nx=G.nx+c.ids.length:=by rw[l2,a9]
 have ac:∀b,¬ QS (jq G.nx ι c.ids) (Q7 G c.bs) b:=by rintro b ⟨i,x,B,A,_,_⟩;have:=cD.Q9 (m:=Q7 G c.bs) ab.ok A;have B:(Q7 G c.bs).nx<=i:=B;omega
 have K:∀b,b<w.heap.size->w'.heap[b]?=w.heap[b]?:=λb hb=>hst.frame b hb (ac b);have s:∀i x,(layAll c.bs G).nx<=i->r.m.get i=some x->bN x=true->w.heap.size<=(ι2 i).b:=by intro i x B A L;rcases hst.own _ ⟨i,x,by rw[hst.lim];exact B,A,L,rfl⟩with h|h;exact cj h (ac _);exact h
 have V:∀(k i:Nat),g.ids[k]?=some i->(layAll c.bs G).nx<=i∧∃b nb nb',r.m.get i=some b∧Bc b=some nb∧F[k]?=some nb'∧
   sM (λi=>ob (uq (layAll c.bs G).nx g.ids i) (iU G.nx c.ids m.nx)) nb=some nb':=by
  intro k i M;have ar:=M;rw[R,abP]at M;cases hp:ad[k]? with
  |none=>rw[hp]at M;cases M
  |some p=>
   rw[hp]at M;have M:p.1=i:=rW M;let⟨q1,b,q2,q3⟩:=ai p (O5 hp);rw[M]at q1 q2;have a4:k<g.bs.length:=by rw[b1,ahP];exact(gB.1 hp).1
   have Z:k<F.length:=by rw[b3];exact a4
   let⟨y,q4,q5⟩:=b2 k _ (cB a4);let⟨z,q6,q7⟩:=b4 k _ (cB Z);have q6:g.bs[k]?=some z:=q6;rw[cB a4]at q6;cases q6;rw[abP,hp]at q4;have q4:p.2=y:=rW q4;rw[← q4]at q5;exact⟨q1,b,p.2,_,q2,q3,cB Z,YQ q5 q7⟩
 have aq:F.length=g.ids.length:=by rw[b3];show g.bs.length=_;rw[b1,R];simp
 have H:∀i,(layAll F m).get i=if i<m.nx then m.get i else(F[i-m.nx]?).map fB:=k4
 have d:∀i,i<m.nx->jd m.nx ι ι2 g.ids i=ι i:=λi B=>cg B;have o:∀k i,g.ids[k]?=some i->jd m.nx ι ι2 g.ids (m.nx+k)=ι2 i:=by intro k i M;unfold jd;rw[aE Zs,show m.nx+k-m.nx=k from by omega,O0,M];rfl
 have aa:∀i x,m.get i=some x->i<m.nx:=λi x A=>cD.Q9 E.ok A;have I:∀i,m.has i->(layAll F m).has i:=λi ⟨x,h1,h2⟩=>⟨x,by rw[H,cg (aa i x h1)];exact h1,h2⟩;have D:∀i,m.has i->jd m.nx ι ι2 g.ids i=ι i:=λi ⟨x,h1,_⟩=>d i (aa i x h1);have ap:G.nx<=m.nx:=dn E.glim E.limn;have hr:GK ι2 (r.m.nm ι2) (jd m.nx ι ι2 g.ids) ((layAll F m).nm (jd m.nx ι ι2 g.ids)) (λi=>ob (uq (layAll c.bs G).nx g.ids i) (iU G.nx c.ids m.nx)):=by
  intro i j ak ⟨y,hy,hyv⟩;let⟨t,W,h6⟩:=D7 ak;have a1:(layAll F m).has j∧jd m.nx ι ι2 g.ids j=ι2 i->((layAll F m).nm (jd m.nx ι ι2 g.ids)) j∧jd m.nx ι ι2 g.ids j=ι2 i∧((layAll F m).nm (jd m.nx ι ι2 g.ids)).cap j=(r.m.nm ι2).cap i:=
   λ⟨p,q⟩=>⟨p,q,ci Loc.cap q⟩
  rcases MZ W with⟨h7,rfl⟩|⟨h7,h8,h9⟩
  ·
   have O:(Q7 G c.bs).get t=some y:=by rw[← hst.old t h7];exact hy
   have a0:ι2 t=jq G.nx ι c.ids t:=hst.ext t ⟨y,O,hyv⟩;rcases GQ h6 with⟨h10,rfl⟩|⟨h10,h11,h12⟩|⟨h10,_⟩;have U:m.has j:=by
    refine⟨y,?_,hyv⟩;have af:(Q7 G c.bs).get j=if j<G.nx then G.get j else(c.bs[j-G.nx]?).map fB:=l4 j
    rw[af,cg h10]at O;rw[E.base j h10];exact O
   exact a1 ⟨I j U,by rw[D j U,a0];exact(cg h10).symm⟩;let⟨_,U⟩:=a6 _ _ h12;refine a1 ⟨I j U,?_⟩;rw[D j U,a0];unfold jq;rw[aE Zs,O0,h12];rfl;omega
  ·
   rcases GQ h6 with⟨h10,_⟩|⟨h10,h11,_⟩|⟨h10,rfl⟩;omega;omega;have e:t-G.nx-c.ids.length=t-(layAll c.bs G).nx:=Zs
   let⟨_,_,_,nb',_,_,q,_⟩:=V _ _ h9;refine a1 ⟨⟨fB nb',?_,Cj nb'⟩,by rw[e];exact o _ _ h9⟩;rw[e,H,aE Zs,show m.nx+(t-(layAll c.bs G).nx)-m.nx=t-(layAll c.bs G).nx from by omega,q];rfl
 let⟨v1,v2⟩:=rU hr r.v v (vG _ _ _ am hv) hrv;have l:∀i x,(layAll F m).get i=some x->(i<m.nx∧m.get i=some x)∨∃k id b,i=m.nx+k∧g.ids[k]?=some id∧r.m.get id=some b∧(layAll c.bs G).nx<=id∧bN x=bN b∧
    iF P (jd m.nx ι ι2 g.ids) ((layAll F m).nm (jd m.nx ι ι2 g.ids)) w'.heap (ι2 id) x:=by
  intro i x A;rw[H]at A;split at A;exact .inl ⟨by assumption,A⟩;rename_i B;cases hnb:F[i-m.nx]? with
  |none=>rw[hnb]at A;cases A
  |some nb=>
   rw[hnb]at A;have A:fB nb=x:=rW A;subst A;have M:i-m.nx<g.ids.length:=by have:=(gB.1 hnb).1;omega
   have a7:=cB M;let⟨q0,b,av,nb',q1,q2,q3,q4⟩:=V _ _ a7;rw[hnb]at q3;cases q3;exact .inr ⟨i-m.nx,_,b,Zs,a7,q1,q0,JN q2 q4,Pe hr (hst.rm.blk _ _ q1) q2 q4⟩
 refine .inl ⟨u7 ι2 r.v,rfl,⟨v,layAll F m⟩,lM.2 rfl,jd m.nx ι ι2 g.ids,?_,v2,v1.symm⟩;refine⟨⟨k1,?_,?_,by rw[k3];exact E.glim,by rw[k3,k2];exact dn E.limn Zs,E.gle,λi B=>by rw[H,cg Zs];exact E.base i B,λi B=>I i (E.ghas i B),
  λi B=>by rw[D i (E.ghas i B)];exact E.glob i B,λi x A L=>by
   rcases l i x A with⟨h1,h2⟩|⟨k,id,b,rfl,h2,J,_,W,_⟩;rw[d i h1];exact E.spot i x h2 L;rw[o k id h2];exact hst.rm.spot id b J (by rw[← W];exact L),hst.rm.gsz⟩,D,I,by rw[k2];omega,k3,λi B=>by rw[H,cg (by have:=E.limn;omega)],hst.size,λb hb _=>K b hb,?_,hst.os,hst.out,hst.tape⟩
 intro i x A;rcases l i x A with⟨h1,h2⟩|⟨k,id,b,rfl,h2,J,_,_,Y⟩;rw[d i h1];exact(E.blk i x h2).mono (n:=m.nm ι) D (cD.dL I D) λL=>K _ (iG (E.blk i x h2) L);rw[o k id h2];exact Y;intro i x B A L;rw[k3]at B;rcases l i x A with⟨h1,h2⟩|⟨k,id,b,rfl,h2,J,Y,W,h6⟩;have ho:=E.own i x B h2 L;have hb:=iG (E.blk i x h2) L;refine⟨λj y hj hy S=>?_,λc e fz Q=>?_⟩;rcases l j y hy with⟨g1,g2⟩|⟨k',id',b',rfl,g2,g3,g4,g5,g6⟩;rw[d j g1,d i h1];exact ho.alone j y hj g2 S;rw[o k' id' g2,d i h1];have:=s id' b' g4 g3 (by rw[← g5];exact S);omega;rw[d i h1,K _ hb]at Q;exact ho.free c e fz Q;have a8:bN b=true:=by rw[← W];exact L
 have ho:=hst.rm.own id b (by rw[hst.lim];exact Y) J a8;have hn:=s id b Y J a8;refine⟨λj y hj hy S=>?_,λc e fz Q=>?_⟩;rw[o k id h2];rcases l j y hy with⟨g1,g2⟩|⟨k',id',b',rfl,g2,g3,g4,g5,g6⟩;rw[d j g1];have:=iG (E.blk j y g2) S;omega;rw[o k' id' g2];refine ho.alone id' b' (λe=>hj ?_) g3 (by rw[← g5];exact S);subst e;have al:g.ids.Nodup:=by rw[R];exact aj
 have:k'=k:=(akh (gB.1 g2).1 al).1 (g2.trans h2.symm);rw[this];rw[o k id h2]at Q;exact ho.free c e fz Q;rintro b ⟨i,x,B,A,L,rfl⟩;rw[k3]at B;rcases l i x A with⟨h1,h2⟩|⟨k,id,bb,rfl,h2,J,Y,W,h6⟩;rw[d i h1];exact .inl ⟨i,x,B,h2,L,rfl⟩;rw[o k id h2];exact .inr (s id bb Y J (by rw[← W];exact L))
end
end
end Go.AM
