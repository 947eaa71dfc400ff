/- A part of an evaluator for the model, proved sound: what it answers holds of the model; it speaks of every program, no condition. -/
import Derived.Test.YtfnlnpllpfhhnaaGreatDoorQA3
import Derived.RecoverIn
set_option linter.all false
namespace Go.AM
open Go
noncomputable section
section
variable {P:Program}{G:Mem}{slots:List Nat}{nt:Nat}{cf:H7}{b:Nat}{ops:Array Oper}{ord:List Nat}{X:Nat->Nat×Inst}{S:Nat->DS}
structure ZW (b:Nat)(ord:List Nat)(X:Nat->Nat×Inst)(S:Nat->DS)(q:Nat)(L:Nat->Bool)(d:Nat):Prop where
 ok:T.Ok (dH b X S q L d).t (dH b X S q L d).nx
 nx:(dH b X S q L d).nx=(S q).m.nx
 lim:(dH b X S q L d).lim=(S q).m.lim
 later:∀p i blk,q+d<=p->p<ord.length->iy b X S p=some (i,blk)->(dH b X S q L d).get i=some .void
 from_:∀j y,(dH b X S q L d).get j=some y->(S q).m.get j=some y∨∃d',d'<d∧L (q+d')=true∧iy b X S (q+d')=some (j,y)
 laid:∀d' i blk,d'<d->L (q+d')=true->iy b X S (q+d')=some (i,blk)->(dH b X S q L d).get i=some blk
 sub:(S q).m.sub (dH b X S q L d)
theorem Fixed.Il (F:Fixed P slots nt cf b ops ord X S){q p:Nat}(d:q=0∨K9 (X (q-1)).2=true)(e:q<=p)(hp:p<ord.length){i:Nat}{a:Z6}(h:iy b X S p=some (i,a)):(S q).m.get i=some .void:=by obtain⟨r,c,_⟩:=F.gs d (p-q) (by omega);rw [show q+(p-q)=p from by omega] at c;exact (F.made hp h).2.2.2.2 _ (O7 c)
theorem Fixed.lay (F:Fixed P slots nt cf b ops ord X S){q:Nat}(x:q=0∨K9 (X (q-1)).2=true)(s:T.Ok (S q).m.t (S q).m.nx)(L:Nat->Bool):∀d,q+d<=ord.length->ZW b ord X S q L d:=by
 intro d;induction d with
 | zero=>intro _;exact⟨s,rfl,rfl,λp i a l c f=>F.Il x (by omega) c f,λj y h=>.inl h,λk i a h=>by omega,λi y h _=>h⟩
 | succ d ih=>
  intro z;have H:=ih (by omega);cases hL:L (q+d) with
  | false=>
   have e:dH b X S q L (d+1)=dH b X S q L d:=by simp [dH,hL]
   refine⟨by rw [e];exact H.ok,by rw [e];exact H.nx,by rw [e];exact H.lim,λp i a l c f=>by rw [e];exact H.later p i a (by omega) c f,λj y h=>?_,λk i a l c f=>?_,by rw [e];exact H.sub⟩;rw [e] at h;rcases H.from_ j y h with h | ⟨k,l,c⟩;exact .inl h;exact .inr ⟨k,by omega,c⟩;by_cases hd':k=d;subst hd';rw [hL] at c;cases c;rw [e];exact H.laid k i a (by omega) c f
  | true=>
   cases hm:iy b X S (q+d) with
   | none=>have e:dH b X S q L (d+1)=dH b X S q L d:=(by simp [dH,hL,hm]);refine⟨by rw [e];exact H.ok,by rw [e];exact H.nx,by rw [e];exact H.lim,λp i a l c f=>by rw [e];exact H.later p i a (by omega) c f,λj y h=>?_,λk i a l c f=>?_,by rw [e];exact H.sub⟩;rw [e] at h;rcases H.from_ j y h with h | ⟨k,l,c⟩;exact .inl h;exact .inr ⟨k,by omega,c⟩;by_cases hd':k=d;subst hd';rw [hm] at f;cases f;rw [e];exact H.laid k i a (by omega) c f
   | some y=>obtain⟨u,blk0⟩:=y;have e:dH b X S q L (d+1)=(dH b X S q L d).set u blk0:=(by simp [dH,hL,hm]);have v:=H.later (q+d) u blk0 (aA _) (by omega) hm;have n:=Mem.Q6 H.ok v;have g:=Mem.U6 H.ok n blk0;refine⟨by rw [e];exact H.ok.put u blk0 n,by rw [e];exact H.nx,by rw [e];exact H.lim,λp i a l c f=>?_,λj y h=>?_,λk i a l c f=>?_,λi y h w=>?_⟩;have r:=F.Mx (p:=q+d) (q:=p) (by omega) c hm f;rw [e,g,if_neg (by omega)];exact H.later p i a (by omega) c f;rw [e,g] at h;split at h;rename_i o;cases h;exact .inr ⟨d,by omega,hL,by rw [o];exact hm⟩;rcases H.from_ j y h with h | ⟨k,l,c⟩;exact .inl h;exact .inr ⟨k,by omega,c⟩;by_cases hd':k=d;subst hd';rw [hm] at f;cases f;rw [e,g,if_pos rfl];have r:=F.Mx (p:=q+k) (q:=q+d) (by omega) (by omega) f hm;rw [e,g,if_neg (by omega)];exact H.laid k i a (by omega) c f;have:=H.sub i y h w;rw [e,g,if_neg (λo=>by rw [o,v] at this;cases this;cases w)];exact this
theorem Fixed.DT (F:Fixed P slots nt cf b ops ord X S){q:Nat}(f:q=0∨K9 (X (q-1)).2=true)(a:T.Ok (S q).m.t (S q).m.nx){L L':Nat->Bool}{d d':Nat}(l:d<=d')(e:q+d'<=ord.length)
  (i:∀k,k<d->L (q+k)=true->L' (q+k)=true) {j:Nat} (h:(dH b X S q L d).has j):(dH b X S q L' d').has j:=by
 obtain⟨y,g,c⟩:=h;have H:=F.lay f a L d (by omega);have H':=F.lay f a L' d' e;rcases H.from_ j y g with h | ⟨k,h3,h4,h5⟩;exact⟨y,H'.sub j y h c,c⟩;exact⟨y,H'.laid k j y (by omega) (i k h3 h4) h5,c⟩
theorem Fixed.lay_all (F:Fixed P slots nt cf b ops ord X S){q:Nat}{L:Nat->Bool}:∀d,q+d<=ord.length->(∀k,k<d->L (q+k)=true∧K9 (X (q+k)).2=false)->dH b X S q L d=(S (q+d)).m:=by
 intro d;induction d with
 | zero=>intro _ _;rfl
 | succ d ih=>
  intro j h;obtain⟨c,f⟩:=h d (by omega);have e:=ih (by omega) λk l=>h k (by omega);have g:=F.quiet (p:=q+d) (by omega) f;show (if L (q+d) then _ else _)=_;rw [c,if_pos rfl,show q+(d+1)=q+d+1 from rfl,g];cases iy b X S (q+d) with
  | none=>exact e
  | some y=>obtain⟨i,a⟩:=y;simp only [];rw [e]
def Lp (ord:List Nat)(listed:Array Bool)(p:Nat):Bool:=match ord[p]? with
 | some i=>listed.getD i false
 | none=>false
structure nP (P:Program)(G:Mem)(b:Nat)(ops:Array Oper)(ord:List Nat)(X:Nat->Nat×Inst)(S:Nat->DS)(ι0:N9)(m0:Mem)(w0:World)(a0:Act)(listed:Array Bool)(a:Act)(w:World)(ι:N9)(q:Nat):Prop where
 hq:q<=ord.length
 head:q=0∨K9 (X (q-1)).2=true
 low:∀p,p<q->Lp ord listed p=true
 high:∀p,q<=p->K9 (X p).2=true->Lp ord listed p=false
 base:Step P G ι0 m0 w0 ι (S q).m w
 ext:∀d i blk,Lp ord listed (q+d)=true->iy b X S (q+d)=some (i,blk)->gW P ι ((dH b X S q (Lp ord listed) (d+1)).nm ι) w.heap (ι i) blk∧jT blk=false∧
  (bG blk=true->(w0.heap.size<=(ι i).b∧(ι i).spot=none)∧(∀j y,(S q).m.get j=some y->bG y=true->(ι j).b≠(ι i).b)∧∀c e fz,w.heap[(ι i).b]?=some (.cells c e fz)->∀k,k<c.size->¬ (fz.1<=k∧k<fz.2))
 ext2:∀d d' i i' blk blk',d≠d'->Lp ord listed (q+d)=true->Lp ord listed (q+d')=true->iy b X S (q+d)=some (i,blk)->iy b X S (q+d')=some (i',blk')->bG blk=true->bG blk'=true->(ι i').b≠(ι i).b
 vals:∀d,Lp ord listed (q+d)=true->(Ak S (q+d)).lt ((dH b X S q (Lp ord listed) (d+1)).nm ι)
 valsl:∀p,p<q->(Ak S p).lt ((S q).m.nm ι)
 tw:∀p i o t,ord[p]?=some i->listed.getD i false=true->ops[i]?=some o->o.dst=some t->a.tmps.getD t undef=u7 ι (Ak S p)
 tn:∀t,(∀i o,listed.getD i false=true->ops[i]?=some o->o.dst≠some t)->a.tmps.getD t undef=a0.tmps.getD t undef
 sz:a.tmps.size=a0.tmps.size
 defs:a.defers=a0.defers
 closed:Oo ops listed
 len:listed.size=ops.size
variable {ι0 ι:N9}{m0:Mem}{w0 w:World}{a0 a:Act}{listed:Array Bool}{q:Nat}
theorem nP.lay (F:Fixed P slots nt cf b ops ord X S)(hb:m0.lim<=b)(D:nP P G b ops ord X S ι0 m0 w0 a0 listed a w ι q):∀d,q+d<=ord.length->Step P G ι0 m0 w0 ι (dH b X S q (Lp ord listed) d) w:=by
 intro d;induction d with
 | zero=>intro _;exact D.base
 | succ d ih=>
  intro m;have H:=ih (by omega);have LF:=F.lay D.head D.base.rm.ok (Lp ord listed) d (by omega);cases hL:Lp ord listed (q+d) with
  | false=>
   have e:dH b X S q (Lp ord listed) (d+1)=dH b X S q (Lp ord listed) d:=by simp [dH,hL]
   rw [e];exact H
  | true=>
   cases hm:iy b X S (q+d) with
   | none=>have e:dH b X S q (Lp ord listed) (d+1)=dH b X S q (Lp ord listed) d:=(by simp [dH,hL,hm]);rw [e];exact H
   | some y=>obtain⟨i,blk⟩:=y;have e:dH b X S q (Lp ord listed) (d+1)=(dH b X S q (Lp ord listed) d).set i blk:=(by simp [dH,hL,hm]);obtain⟨k,l,g⟩:=D.ext d i blk hL hm;rw [e] at k ⊢;have n:=(F.made (p:=q+d) (by omega) hm).1;refine H.add (LF.later (q+d) i blk (aA _) (by omega) hm) (by rw [LF.lim,D.base.lim];omega) ⟨k,l,λc j y o h f=>?_,λc=>(g c).2.2,λc=>(g c).1.2⟩ λc=>(g c).1.1;rcases LF.from_ j y h with h | ⟨d',h1,h2,h3⟩;exact (g c).2.1 j y h f;exact D.ext2 d d' i j blk y (by omega) hL h2 hm h3 c f
def vm (ord:List Nat)(S:Nat->DS)(listed:Array Bool)(p:Nat):d9:=if Lp ord listed p then Ak S p else .undef
def XL (ord:List Nat)(S:Nat->DS)(listed:Array Bool):Nat->List d9
 | 0=>[]
 | p+1=>vm ord S listed p::XL ord S listed p
def DU (ord:List Nat)(X:Nat->Nat×Inst)(S:Nat->DS)(listed:Array Bool):Nat->T d9
 | 0=>(S 0).env
 | p+1=>fB (X p).2.dst (vm ord S listed p) (DU ord X S listed p)
def QS (ops:Array Oper)(ord:List Nat)(S:Nat->DS)(listed:Array Bool)(ι:N9)(a0:Act):Nat->Array Value
 | 0=>a0.tmps
 | p+1=>match (ord[p]?).bind λi=>(ops[i]?).bind (·.dst) with
  | some t=>(QS ops ord S listed ι a0 p).setIfInBounds t (u7 ι (vm ord S listed p))
  | none=>QS ops ord S listed ι a0 p
theorem rG:∀p,(QS ops ord S listed ι a0 p).size=a0.tmps.size
 | 0=>rfl
 | p+1=>by simp only [QS];split;simp [rG p];exact rG p
theorem QT (ops:Array Oper)(ord:List Nat)(p:Nat)(hp:p<ord.length):jM ops ord (p+1)=((ord[p]?).bind λi=>(ops[i]?).bind (·.dst))::jM ops ord p:=by unfold jM;rw [O4 hp,afj,List.reverse_append,cB hp];rfl
theorem nP.st (F:Fixed P slots nt cf b ops ord X S)(hb:m0.lim<=b)(D:nP P G b ops ord X S ι0 m0 w0 a0 listed a w ι q)(m:bY ι0 (m0.nm ι0) slots (S 0).env a0.tmps)(r:nt<=a0.tmps.size)(d:Nat)(l:q+d<=ord.length):
  ∀p,p<=q+d->St P ι ((dH b X S q (Lp ord listed) d).nm ι) slots (jM ops ord p) (XL ord S listed p) (DU ord X S listed p) (QS ops ord S listed ι a0 p):=by
 have H:=D.lay F hb d l;intro p;induction p with
 | zero=>intro _;refine⟨λt k z=>by simp [jM,kX] at z,H.env m,H.rm.glob,H.rm.ghas⟩
 | succ p ih=>
  intro C;have s:=ih (by omega);have g:p<ord.length:=by omega
  obtain⟨i,n⟩:∃i,ord[p]?=some i:=⟨ord[p],cB g⟩;obtain⟨o,u,_,f,_⟩:=F.inst p i n;have B:(vm ord S listed p).lt ((dH b X S q (Lp ord listed) d).nm ι):=by unfold vm;split;rename_i v;by_cases hpq:p<q;exact d9.aR (Mem.cK (λj ⟨y,h1,h2⟩=>⟨y,(F.lay D.head D.base.rm.ok _ d l).sub j y h1 h2,h2⟩) λ_ _=>rfl) _ (D.valsl p hpq);have:=D.vals (p-q) (by rw [show q+(p-q)=p from by omega];exact v);rw [show q+(p-q)=p from by omega] at this;exact d9.aR (Mem.cK (λj x=>F.DT D.head D.base.rm.ok (by omega) l (λ_ _ h=>h) x) λ_ _=>rfl) _ this;trivial
  have c:jM ops ord (p+1)=o.dst::jM ops ord p:=by rw [QT ops ord p g,n];simp [u]
  have:=s.put o.dst (λt A=>by rw [rG];exact aP (F.din i o t u A) r) B;rw [c];show St P ι _ slots _ (vm ord S listed p::XL ord S listed p) (fB (X p).2.dst (vm ord S listed p) (DU ord X S listed p)) (QS ops ord S listed ι a0 (p+1));rw [f];have e:QS ops ord S listed ι a0 (p+1)=(match o.dst with | some t=>(QS ops ord S listed ι a0 p).setIfInBounds t (u7 ι (vm ord S listed p)) | none=>QS ops ord S listed ι a0 p):=by simp only [QS,n,U1,u]
  rw [e];exact this
theorem VL (S:Nat->DS):∀(p k:Nat),k<p->(XL ord S listed p)[k]?=some (vm ord S listed (p-1-k))
 | 0,k,h=>by omega
 | p+1,0,_=>by simp [XL]
 | p+1,k+1,h=>by rw [XL,adJ,VL S p k (by omega),show p+1-1-(k+1)=p-1-k from by omega]
theorem ZX (F:Fixed P slots nt cf b ops ord X S){j:Nat}:∀p,p<=ord.length->(∀r,r<p->(X r).2.dst≠some j)->∀ls ls':List d9,J4 (.slot j) ls (DU ord X S listed p)=J4 (.slot j) ls' (S p).env:=by
 intro p;induction p with
 | zero=>intro _ _ ls ls';rfl
 | succ p ih=>intro c h ls ls';obtain⟨_,a⟩:=F.ls (p:=p) (by omega);rw [a];show J4 (.slot j) ls (fB (X p).2.dst (vm ord S listed p) (DU ord X S listed p))=_;rw [JE (h p (by omega)) _ ls ls,JE (h p (by omega)) _ ls' ls'];exact ih (by omega) (λr d=>h r (by omega)) ls ls'
theorem nP.opd (F:Fixed P slots nt cf b ops ord X S)(D:nP P G b ops ord X S ι0 m0 w0 a0 listed a w ι q){p i:Nat}(hp:p<ord.length)(d:∀j,JH ops i j->listed.getD j false=true){y:aO}(h:QM ops ord X p i y):
  Sm id (S p).ls (S p).env (XL ord S listed p) (DU ord X S listed p) y:=by
 show J4 y (XL ord S listed p) (DU ord X S listed p)=J4 y (S p).ls (S p).env;cases y with
 | loc k=>
  obtain⟨j,e,f,g⟩:=h;rw [Ji,Ji,VL S p k e,(F.len p (by omega)).2 k e];have:Lp ord listed (p-1-k)=true:=by simp only [Lp,f];exact d j g
  simp [vm,this]
 | slot j=>exact ZX F p (by omega) h _ _
 | con c=>rfl
theorem zy {t:Nat}:∀p,(∀r i o,r<p->ord[r]?=some i->ops[i]?=some o->o.dst≠some t)->(QS ops ord S listed ι a0 p).getD t undef=a0.tmps.getD t undef:=by
 intro p;induction p with
 | zero=>intro _;rfl
 | succ p ih=>intro h;have:=ih λr i o g=>h r i o (by omega);simp only [QS];split;rename_i f a;obtain⟨i,c,a⟩:=alS.1 a;obtain⟨o,d,a⟩:=alS.1 a;have b:f≠t:=λe=>h p i o (by omega) c d (by rw [a,e]);rw [O0,O8 b,← O0];exact this;exact this
theorem JK (F:Fixed P slots nt cf b ops ord X S)(f:nt<=a0.tmps.size){t r i:Nat}{o:Oper}(k:ord[r]?=some i)(g:ops[i]?=some o)(l:o.dst=some t):∀p,r<p->(QS ops ord S listed ι a0 p).getD t undef=u7 ι (vm ord S listed r):=by
 intro p;induction p with
 | zero=>intro h;omega
 | succ p ih=>
  intro h;simp only [QS];by_cases hrp:r=p;subst hrp;simp only [k,U1,g,l];rw [dM _ _ _ _ (by rw [rG];exact aP (F.din i o t g l) f),if_pos rfl];have:=ih (by omega);split;rename_i m a;obtain⟨n,c,a⟩:=alS.1 a;obtain⟨q,j,a⟩:=alS.1 a;have d:m≠t:=λe=>by subst e;have:=F.dsts i n o q m g j l a;subst this;exact hrp ((adU (gB.1 k).1 F.nodup).1 (k.trans c.symm))
  rw [O0,O8 d,← O0];exact this;exact this
theorem nP.looks (F:Fixed P slots nt cf b ops ord X S)(I:nt<=a0.tmps.size)(D:nP P G b ops ord X S ι0 m0 w0 a0 listed a w ι q){p i:Nat}{o:Oper}(hp:ord[p]?=some i)(z:ops[i]?=some o)(B:listed.getD i false=false)
  (v:∀j,JH ops i j->listed.getD j false=true) {t:Nat} (N:t∈BO ops o):a.tmps.getD t undef=(QS ops ord S listed ι a0 p).getD t undef:=by
 by_cases hw:∃j g,ops[j]?=some g∧g.dst=some t∧j≠i;obtain⟨j,g,m,c,x⟩:=hw;obtain⟨r,f⟩:=acu (F.all j (wu.1 m).1);have M:=(gB.1 hp).1;rcases F.looks i o t z N j g m x c with h | h;have L:=v j h;have A:r<p:=by rcases azN r p with u | u | u;exact u;subst u;rw [hp] at f;exact absurd (su f).symm x;exact absurd (dep_before F h hp f) (by omega)
 rw [D.tw r j g t f L m c,JK F I f m c p A];simp [vm,Lp,f,L];have A:p<r:=dep_before F h f hp;have H:listed.getD j false=false:=by
  cases hl:listed.getD j false with
  | false=>rfl
  | true=>have:=h.listed D.closed (D.closed j · hl);rw [B] at this;cases this
 rw [D.tn t ?_,zy p ?_];intro K n s J k d e;have:=F.dsts j n g s t m d c e;subst this;have:K=r:=(adU (gB.1 k).1 F.nodup).1 (k.trans f.symm);omega;intro n s l d e;have:=F.dsts j n g s t m d c e;subst this;rw [H] at l;cases l;have y:∀j g,ops[j]?=some g->g.dst=some t->j=i:=λj g m c=>aCF λE=>hw ⟨j,g,m,c,E⟩;rw [D.tn t ?_,zy p ?_];intro K n s J k d e;have:=y n s d e;subst this;have:K=p:=(adU (gB.1 k).1 F.nodup).1 (k.trans hp.symm);omega;intro n s l d e;have:=y n s d e;subst this;rw [B] at l;cases l
where
 dep_before {P:Program} {slots:List Nat} {nt:Nat} {cf:H7} {b:Nat} {ops:Array Oper} {ord:List Nat} {X:Nat->Nat×Inst} {S:Nat->DS} (F:Fixed P slots nt cf b ops ord X S) {i j:Nat} (h:JH ops i j):∀{p r:Nat},ord[p]?=some i->ord[r]?=some j->r<p:=by
  induction h with
  | @edge i o e z he hb=>intro p r hp f;obtain⟨q,u,C⟩:=F.edges p i o hp z e he hb;have:q=r:=(adU (gB.1 C).1 F.nodup).1 (C.trans f.symm);omega
  | @more i o e j z he hb _ ih=>intro p r hp f;obtain⟨q,u,C⟩:=F.edges p i o hp z e he hb;have:=ih C f;omega
end
section
variable {P:Program}{G:Mem}{slots:List Nat}{nt:Nat}{cf:H7}{b:Nat}{ops:Array Oper}{ord:List Nat}{X:Nat->Nat×Inst}{S:Nat->DS}
variable {ι0 ι:N9}{m0:Mem}{w0 w:World}{a0 a:Act}{listed:Array Bool}{q:Nat}
theorem Step.rename {m:Mem}{o ι2:N9}(a:Step P G ι0 m0 w0 o m w)(f:∀i,m.has i->ι2 i=o i):Step P G ι0 m0 w0 ι2 m w:=by
 have h:=a.rm;have q:(m.nm o).le (m.nm ι2):=Mem.cK (λi k=>k) f;have d:∀i x,m.get i=some x->bG x=true->ι2 i=o i:=λi x g l=>f i (uO g l);refine⟨⟨h.ok,?_,?_,h.glim,h.limn,h.gle,h.base,h.ghas,λi k=>by rw [f i (h.ghas i k)];exact h.glob i k,λi x g l=>by rw [d i x g l];exact h.spot i x g l,h.gsz⟩,λi k=>(f i (a.has i k)).trans (a.ext i k),a.has,a.nx,a.lim,a.old,a.size,a.frame,?_,a.os,a.out,a.tape⟩;intro i x g;by_cases hv:jT x=true;cases x<;>first | trivial | cases hv
 rw [f i ⟨x,g,by simpa using hv⟩];exact (h.blk i x g).mono (n:=m.nm o) f q λ_=>rfl;intro i x k g l;have s:=h.own i x k g l;refine⟨λj y v t p=>?_,λc e u r=>?_⟩;rw [d i x g l,d j y t p];exact s.alone j y v t p;rw [d i x g l] at r;exact s.free c e u r;rintro b ⟨i,x,k,g,l,rfl⟩;rw [d i x g l];exact a.own _ ⟨i,x,k,g,l,rfl⟩
theorem DV {p:Nat}(h:Lp ord listed p=true):p<ord.length:=by unfold Lp at h;split at h;rename_i i a;exact (gB.1 a).1;cases h
theorem pQ {p i:Nat}(hp:ord[p]?=some i):Lp ord listed p=listed.getD i false:=by simp [Lp,hp]
theorem nC (A:Array Bool)(i j:Nat)(hi:i<A.size):(A.setIfInBounds i true).getD j false=if j=i then true else A.getD j false:=by rw [O0,O0];by_cases h:i=j;subst h;rw [if_pos rfl,Q5 hi];rfl;rw [if_neg (λe=>h e.symm),O8 h]
theorem TJ (a:ord.Nodup){p i:Nat}(hp:ord[p]?=some i)(hi:i<listed.size)(r:Nat):Lp ord (listed.setIfInBounds i true) r=if r=p then true else Lp ord listed r:=by
 by_cases hr:r=p;subst hr;rw [pQ hp,nC _ _ _ hi,if_pos rfl,if_pos rfl];rw [if_neg hr];unfold Lp;cases hj:ord[r]? with
 | none=>rfl
 | some j=>show (listed.setIfInBounds i true).getD j false=_;rw [nC _ _ _ hi,if_neg];intro e;subst e;exact hr ((adU (gB.1 hj).1 a).1 (hj.trans hp.symm))
theorem nP.agv (F:Fixed P slots nt cf b ops ord X S)(u:nt<=a0.tmps.size)(D:nP P G b ops ord X S ι0 m0 w0 a0 listed a w ι q){p i:Nat}{o:Oper}(hp:ord[p]?=some i)(k:ops[i]?=some o){ι':N9}
  (v:∀r,Lp ord listed r=true->u7 ι' (Ak S r)=u7 ι (Ak S r)):
  (∀r j o' t,ord[r]?=some j->(listed.setIfInBounds i true).getD j false=true->ops[j]?=some o'->o'.dst=some t->(a.put o.dst (u7 ι' (Ak S p))).tmps.getD t undef=u7 ι' (Ak S r))∧
  (∀t,(∀j o',(listed.setIfInBounds i true).getD j false=true->ops[j]?=some o'->o'.dst≠some t)->(a.put o.dst (u7 ι' (Ak S p))).tmps.getD t undef=a0.tmps.getD t undef)∧
  (a.put o.dst (u7 ι' (Ak S p))).tmps.size=a0.tmps.size∧(a.put o.dst (u7 ι' (Ak S p))).defers=a0.defers:=by
 have s:i<listed.size:=by rw [D.len];exact (wu.1 k).1
 refine⟨λr j o' t l f d m=>?_,λt h=>?_,by rw [kN];exact D.sz,by rw [(qF a o.dst _).2];exact D.defs⟩;rw [(qF a o.dst _).1];rw [nC _ _ _ s] at f;by_cases hji:j=i;subst hji;rw [k] at d;cases d;have:r=p:=(adU (gB.1 l).1 F.nodup).1 (l.trans hp.symm);subst this;rw [m];show (a.tmps.setIfInBounds t _).getD t undef=_;rw [dM _ _ _ _ (by rw [D.sz];exact aP (F.din _ o t k m) u),if_pos rfl];rw [if_neg hji] at f;have n:=D.tw r j o' t l f d m;rw [v r (by rw [pQ l];exact f),← n];cases hd:o.dst with
 | none=>rfl
 | some t'=>have c:t'≠t:=λe=>hji (F.dsts j i o' o t d k m (by rw [hd,e]));show (a.tmps.setIfInBounds t' _).getD t undef=_;rw [O0,O8 c,← O0]
 rw [(qF a o.dst _).1];have g:=h i o (by rw [nC _ _ _ s,if_pos rfl]) k;have n:=D.tn t λj o' f d=>h j o' (by rw [nC _ _ _ s];split<;>simp_all) d
 rw [← n];cases hd:o.dst with
 | none=>rfl
 | some t'=>have c:t'≠t:=λe=>g (by rw [hd,e]);show (a.tmps.setIfInBounds t' _).getD t undef=_;rw [O0,O8 c,← O0]
theorem nP.closed' (D:nP P G b ops ord X S ι0 m0 w0 a0 listed a w ι q){i:Nat}{o:Oper}(h:ops[i]?=some o)(l:∀e∈o.after,Region.binds .any e=true->listed.getD e.on false=true):
  Oo ops (listed.setIfInBounds i true):=by
 have k:i<listed.size:=by rw [D.len];exact (wu.1 h).1
 intro j m d c e g f;rw [nC _ _ _ k] at d ⊢;by_cases hji:j=i;subst hji;rw [h] at c;cases c;rw [l e g f];split<;>rfl
 rw [if_neg hji] at d;rw [D.closed j m d c e g f];split<;>rfl
theorem nP.quiet (F:Fixed P slots nt cf b ops ord X S)(a4:nt<=a0.tmps.size)(D:nP P G b ops ord X S ι0 m0 w0 a0 listed a w ι q){d i:Nat}{o:Oper}(hp:ord[q+d]?=some i)(ho:ops[i]?=some o)(a6:listed.getD i false=false)
  (hr:∀e∈o.after,Region.binds .any e=true->listed.getD e.on false=true) (hE:K9 (X (q+d)).2=false) {ι':N9} {w':World} (H:Step P G ι (S q).m w ι' (S q).m w') (B:∀k,k<w.heap.size->w'.heap[k]?=w.heap[k]?)
  (a7:∀j,(∀blk,iy b X S (q+d)≠some (j,blk))->ι' j=ι j)
  (z:∀id blk,iy b X S (q+d)=some (id,blk)->gW P ι' ((dH b X S q (Lp ord (listed.setIfInBounds i true)) (d+1)).nm ι') w'.heap (ι' id) blk∧jT blk=false∧
   (bG blk=true->((ι' id).b=w.heap.size∧(ι' id).spot=none)∧∀c e fz,w'.heap[(ι' id).b]?=some (.cells c e fz)->∀k,k<c.size->¬ (fz.1<=k∧k<fz.2)))
  (hV:(Ak S (q+d)).lt ((dH b X S q (Lp ord (listed.setIfInBounds i true)) (d+1)).nm ι')):
  nP P G b ops ord X S ι0 m0 w0 a0 (listed.setIfInBounds i true) (a.put o.dst (u7 ι' (Ak S (q+d)))) w' ι' q:=by
 have hi:i<listed.size:=by rw [D.len];exact (wu.1 ho).1
 have a2:q+d<ord.length:=(gB.1 hp).1;have N:=TJ (listed:=listed) F.nodup hp hi;have u:∀r,Lp ord listed r=true->Lp ord (listed.setIfInBounds i true) r=true:=λr s=>by rw [N];split<;>simp [s]
 have a3:Lp ord listed (q+d)=false:=by rw [pQ hp];exact a6
 have l:∀f,q+f<=ord.length->∀j,(dH b X S q (Lp ord listed) f).has j->ι' j=ι j:=by intro f K j C;refine a7 j λblk I=>?_;obtain⟨y,h1,h2⟩:=C;have hv:=F.Il D.head (Nat.le_add_right q d) a2 I;rcases (F.lay D.head D.base.rm.ok (Lp ord listed) f K).from_ j y h1 with h | ⟨d3,h3,h4,h5⟩;rw [hv] at h;cases h;cases h2;rcases azN d d3 with h6 | h6 | h6;have:=F.Mx (p:=q+d) (q:=q+d3) (by omega) (DV h4) I h5;omega;subst h6;rw [a3] at h4;cases h4;have:=F.Mx (p:=q+d3) (q:=q+d) (by omega) a2 h5 I;omega
 have a1:∀f,q+f<=ord.length->((dH b X S q (Lp ord listed) f).nm ι).le ((dH b X S q (Lp ord (listed.setIfInBounds i true)) f).nm ι'):=λf K=>Mem.cK (λj C=>F.DT D.head D.base.rm.ok (aA _) K (λk _ h=>u _ h) C) (l f K);have v:∀f id blk,f≠d->Lp ord listed (q+f)=true->iy b X S (q+f)=some (id,blk)->ι' id=ι id∧(bG blk=true->(ι id).b<w.heap.size):=by intro f id blk x s I;have hl:=DV s;obtain⟨g1,g2,_⟩:=D.ext f id blk s I;refine⟨l (f+1) (by omega) id ⟨blk,(F.lay D.head D.base.rm.ok _ (f+1) (by omega)).laid f id blk (by omega) s I,g2⟩,λg=>gX g1 g⟩
 have x:∀f,Lp ord (listed.setIfInBounds i true) (q+f)=true->f≠d->Lp ord listed (q+f)=true:=λf h O=>by rw [N,if_neg (by omega)] at h;exact h
 have V:∀r,Lp ord listed r=true->u7 ι' (Ak S r)=u7 ι (Ak S r):=by intro r s;have hl:=DV s;by_cases hrq:r<q;exact aV (n:=(S q).m.nm ι) H.ext _ (D.valsl r hrq);have:=D.vals (r-q) (by rw [show q+(r-q)=r from by omega];exact s);rw [show q+(r-q)=r from by omega] at this;exact aV (n:=(dH b X S q (Lp ord listed) (r-q+1)).nm ι) (l _ (by omega)) _ this
 obtain⟨t1,t2,t3,t4⟩:=D.agv F a4 hp ho V;refine⟨D.hq,D.head,λp U=>u p (D.low p U),λp a5 he=>?_,D.base.trans H,?_,?_,?_,λp U=>?_,t1,t2,t3,t4,D.closed' ho hr,by simpa using D.len⟩;rw [N,if_neg (λe=>by rw [e,hE] at he;cases he)];exact D.high p a5 he;intro f id blk s I;by_cases O:f=d;subst O;obtain⟨g1,g2,M⟩:=z id blk I;refine⟨g1,g2,λg=>⟨⟨by rw [(M g).1.1];exact D.base.size,(M g).1.2⟩,λj y C E=>?_,(M g).2⟩⟩;rw [(M g).1.1,H.ext j (uO C E)];have:=gX (D.base.rm.blk j y C) E;omega;have s:=x f s O;have hl:=DV s;obtain⟨g1,g2,M⟩:=D.ext f id blk s I;obtain⟨Y,Z⟩:=v f id blk O s I;rw [Y];refine⟨g1.mono (l _ (by omega)) (a1 _ (by omega)) λg=>B _ (Z g),g2,λg=>⟨(M g).1,λj y C E=>?_,λc e fz hc=>?_⟩⟩;rw [H.ext j (uO C E)];exact (M g).2.1 j y C E;rw [B _ (Z g)] at hc;exact (M g).2.2 c e fz hc;intro d1 W i1 i2 b1 b2 A J t T L Q R;by_cases h1:d1=d;subst h1;have t:=x W t (λe=>A e.symm);obtain⟨Y,Z⟩:=v W i2 b2 (λe=>A e.symm) t L;rw [((z i1 b1 T).2.2 Q).1.1,Y];have:=Z R;omega;have J:=x d1 J h1;obtain⟨Y,Z⟩:=v d1 i1 b1 h1 J T;by_cases h2:W=d;subst h2;rw [((z i2 b2 L).2.2 R).1.1,Y];have:=Z Q;omega;have t:=x W t h2;rw [Y,(v W i2 b2 h2 t L).1];exact D.ext2 d1 W i1 i2 b1 b2 A J t T L Q R;intro f s;by_cases O:f=d;subst O;exact hV;have s:=x f s O;exact d9.aR (a1 _ (by have:=DV s;omega)) _ (D.vals f s);exact d9.aR (Mem.cK (λj C=>C) H.ext) _ (D.valsl p U)
theorem nP.effect (F:Fixed P slots nt cf b ops ord X S)(hb:m0.lim<=b)(ag:nt<=a0.tmps.size)(D:nP P G b ops ord X S ι0 m0 w0 a0 listed a w ι q){d i:Nat}{o:Oper}(hp:ord[q+d]?=some i)(ho:ops[i]?=some o)(aj:listed.getD i false=false)
  (hr:∀e∈o.after,Region.binds .any e=true->listed.getD e.on false=true) (hE:K9 (X (q+d)).2=true) (J:∀k,k<d->Lp ord listed (q+k)=true) {ι':N9} {w':World} (I:Step P G ι (S (q+d)).m w ι' (S (q+d+1)).m w')
  (hV:(Ak S (q+d)).lt ((S (q+d+1)).m.nm ι')):
  ∃ι'',u7 ι'' (Ak S (q+d))=u7 ι' (Ak S (q+d))∧nP P G b ops ord X S ι0 m0 w0 a0 (listed.setIfInBounds i true) (a.put o.dst (u7 ι'' (Ak S (q+d)))) w' ι'' (q+d+1):=by
 have hi:i<listed.size:=by rw [D.len];exact (wu.1 ho).1
 have ah:q+d<ord.length:=(gB.1 hp).1;have Z:=TJ (listed:=listed) F.nodup hp hi;have Y:∀r,Lp ord listed r=true->Lp ord (listed.setIfInBounds i true) r=true:=λr v=>by rw [Z];split<;>simp [v]
 have ac:Lp ord listed (q+d)=false:=by rw [pQ hp];exact aj
 have aa:∀k,k<d->K9 (X (q+k)).2=false:=λk hk=>by
  cases he:K9 (X (q+k)).2 with
  | false=>rfl
  | true=>have C:=D.high (q+k) (by omega) he;rw [J k hk] at C;cases C
 have T:=F.lay_all (L:=Lp ord listed) d (by omega) λk hk=>⟨J k hk,aa k hk⟩;have O:=D.lay F hb d (by omega);rw [T] at O;have LFd:=F.lay D.head D.base.rm.ok (Lp ord listed) d (by omega);have Lsub:=LFd.sub;have Llaid:=LFd.laid;have Lfrom:=LFd.from_;rw [T] at Lsub Llaid Lfrom;have al:iy b X S (q+d)=none:=by
  cases hm:iy b X S (q+d) with
  | none=>rfl
  | some y=>obtain⟨j,f⟩:=y;obtain⟨_,⟨o',C,_⟩,_⟩:=F.made ah hm;simp [K9,C] at hE
 let E:Nat->Prop:=λk=>∃p f,q+d<p∧Lp ord listed p=true∧iy b X S p=some (k,f)
 have x:q+d+1=0∨K9 (X (q+d+1-1)).2=true:=.inr (by rw [aCq];exact hE);have a7:∀k,E k->(S (q+d+1)).m.get k=some .void:=by rintro k ⟨p,f,C,B,h3⟩;exact F.Il x (by omega) (DV B) h3
 classical
 let ι'':N9:=λk=>if E k then ι k else ι' k
 have U:∀k,E k->ι'' k=ι k:=λk hk=>if_pos hk;have N:∀k,(S (q+d+1)).m.has k->ι'' k=ι' k:=λk ⟨y,C,B⟩=>if_neg λhk=>by rw [a7 k hk] at C;cases C;cases B
 have a2:Step P G ι0 m0 w0 ι'' (S (q+d+1)).m w':=(O.trans I).rename N;have A:Step P G ι (S (q+d)).m w ι'' (S (q+d+1)).m w':=I.rename N;have ab:=a2.rm.ok;have hc:=aV (n:=(S (q+d+1)).m.nm ι') (ι:=ι') (ι':=ι'') N _ hV;have g:∀d',q+d'<=ord.length->∀j,(dH b X S q (Lp ord listed) d').has j->ι'' j=ι j∧((S (q+d+1)).m.has j∨∃p f,q+d<p∧p<q+d'∧Lp ord listed p=true∧iy b X S p=some (j,f)∧jT f=false):=by intro d' ad j ⟨y,C,B⟩;have a3:(S (q+d)).m.has j->ι'' j=ι j∧(S (q+d+1)).m.has j:=λs=>⟨A.ext j s,A.has j s⟩;rcases (F.lay D.head D.base.rm.ok (Lp ord listed) d' ad).from_ j y C with h | ⟨d3,h3,h4,h5⟩;obtain⟨e1,e2⟩:=a3 ⟨y,Lsub j y h B,B⟩;exact⟨e1,.inl e2⟩;rcases azN d3 d with h6 | h6 | h6;obtain⟨e1,e2⟩:=a3 ⟨y,Llaid d3 j y h6 h4 h5,B⟩;exact⟨e1,.inl e2⟩;subst h6;rw [ac] at h4;cases h4;exact⟨U j ⟨q+d3,y,by omega,h4,h5⟩,.inr ⟨q+d3,y,by omega,by omega,h4,h5,B⟩⟩
 have a9:∀u l,q+u=q+d+1+l->q+u<=ord.length->((dH b X S q (Lp ord listed) u).nm ι).le ((dH b X S (q+d+1) (Lp ord (listed.setIfInBounds i true)) l).nm ι''):=by intro u l hd Q;refine Mem.cK (λj s=>?_) λj s=>(g u Q j s).1;have LF':=F.lay x ab (Lp ord (listed.setIfInBounds i true)) l (by omega);rcases (g u Q j s).2 with⟨y,C,B⟩ | ⟨p,f,C,B,h3,h4,h5⟩;exact⟨y,LF'.sub j y C B,B⟩;refine⟨f,LF'.laid (p-(q+d+1)) j f (by omega) (by rw [show q+d+1+(p-(q+d+1))=p from by omega];exact Y p h3) (by rw [show q+d+1+(p-(q+d+1))=p from by omega];exact h4),h5⟩
 have M:∀l,Lp ord (listed.setIfInBounds i true) (q+d+1+l)=true->Lp ord listed (q+(d+1+l))=true:=λl h=>by rw [Z,if_neg (by omega)] at h;rw [show q+(d+1+l)=q+d+1+l from by omega];exact h
 have H:∀u id f,d<u->Lp ord listed (q+u)=true->iy b X S (q+u)=some (id,f)->bG f=true->(ι id).b<w.heap.size∧∀j y,(S (q+d)).m.get j=some y->bG y=true->(ι j).b≠(ι id).b:=by intro u id f Q v hm t;obtain⟨g1,g2,g3⟩:=D.ext u id f v hm;refine⟨gX g1 t,λj y s z=>?_⟩;rcases Lfrom j y s with h | ⟨d3,h3,h4,h5⟩;exact (g3 t).2.1 j y h z;exact D.ext2 u d3 id j f y (by omega) v h4 hm h5 t z
 have K:∀u id f,d<u->Lp ord listed (q+u)=true->iy b X S (q+u)=some (id,f)->bG f=true->w'.heap[(ι id).b]?=w.heap[(ι id).b]?:=by intro u id f Q v hm t;obtain⟨g1,g2⟩:=H u id f Q v hm t;exact I.frame _ g1 λ⟨j,y,_,s,z,e⟩=>g2 j y s z e
 have a6:∀r,Lp ord listed r=true->u7 ι'' (Ak S r)=u7 ι (Ak S r):=by intro r v;have hl:=DV v;by_cases hrq:r<q;have C:=D.valsl r hrq;exact aV (n:=(S q).m.nm ι) (λj s=>(g 0 (by omega) j s).1) _ C;have:=D.vals (r-q) (by rw [show q+(r-q)=r from by omega];exact v);rw [show q+(r-q)=r from by omega] at this;exact aV (n:=(dH b X S q (Lp ord listed) (r-q+1)).nm ι) (λj s=>(g _ (by omega) j s).1) _ this
 obtain⟨t1,t2,t3,t4⟩:=D.agv F ag hp ho a6;refine⟨ι'',hc,by omega,x,λp ai=>?_,λp am he=>?_,a2,?_,?_,?_,λp ai=>?_,t1,t2,t3,t4,D.closed' ho hr,by simpa using D.len⟩;rw [Z];split;rfl;by_cases h:p<q;exact D.low p h;have:=J (p-q) (by omega)
 rwa [show q+(p-q)=p from by omega] at this
 rw [Z,if_neg (by omega)];exact D.high p (by omega) he;intro l id f v hm;have v:=M l v;have R:iy b X S (q+(d+1+l))=some (id,f):=by rw [show q+(d+1+l)=q+d+1+l from by omega];exact hm
 have hl:=DV v;obtain⟨g1,g2,g3⟩:=D.ext (d+1+l) id f v R;have e1:ι'' id=ι id:=U id ⟨q+(d+1+l),f,by omega,v,R⟩;rw [e1];refine⟨g1.mono (λj s=>(g _ (by omega) j s).1) (a9 (d+1+l+1) (l+1) (by omega) (by omega)) λt=>K _ id f (by omega) v R t,g2,λt=>⟨(g3 t).1,λj y s z=>?_,λc e fz a8=>?_⟩⟩;obtain⟨n1,n2⟩:=H (d+1+l) id f (by omega) v R t;rw [N j (uO s z)];by_cases hjl:(S (q+d)).m.lim<=j;rcases I.own _ ⟨j,y,by rw [I.lim];exact hjl,s,z,rfl⟩ with⟨j',y',_,a1,hly',e⟩ | h;rw [← e];exact n2 j' y' a1 hly';omega;have a1:(S (q+d)).m.get j=some y:=by rw [← I.old j (by omega)];exact s
 rw [I.ext j (uO a1 z)];exact n2 j y a1 z;rw [K _ id f (by omega) v R t] at a8;exact (g3 t).2.2 c e fz a8;intro u l i1 i2 b1 b2 ak V W a4 a5 ae af;have V:=M u V;have W:=M l W;rw [show q+d+1+u=q+(d+1+u) from by omega] at a4;rw [show q+d+1+l=q+(d+1+l) from by omega] at a5;rw [U i1 ⟨_,b1,by omega,V,a4⟩,U i2 ⟨_,b2,by omega,W,a5⟩];exact D.ext2 (d+1+u) (d+1+l) i1 i2 b1 b2 (by omega) V W a4 a5 ae af;intro l v;have v:=M l v;have hl:=DV v;have:=D.vals (d+1+l) v;rw [show q+(d+1+l)=q+d+1+l from by omega] at this;exact d9.aR (a9 (d+1+l+1) (l+1) (by omega) (by omega)) _ this;by_cases h:p=q+d;subst h;exact d9.aR (Mem.cK (λj s=>s) N) _ hV;by_cases hpq':p<q;refine d9.aR (Mem.cK (λj ⟨y,C,B⟩=>?_) λj s=>(g 0 (by omega) j s).1) _ (D.valsl p hpq');exact A.has j ⟨y,Lsub j y C B,B⟩;have:=D.vals (p-q) (by have:=J (p-q) (by omega);exact this);rw [show q+(p-q)=p from by omega] at this;refine d9.aR (Mem.cK (λj s=>?_) λj s=>(g _ (by omega) j s).1) _ this;have B:=F.DT D.head D.base.rm.ok (L:=Lp ord listed) (L':=Lp ord listed) (d:=p-q+1) (d':=d) (by omega) (by omega) (λ_ _ h=>h) s;rw [T] at B;exact A.has j B
end
section
variable {P:Program}{G:Mem}{slots:List Nat}{nt:Nat}{cf:H7}{b:Nat}{ops:Array Oper}{ord:List Nat}{X:Nat->Nat×Inst}{S:Nat->DS}
variable {ι0 ι:N9}{m0:Mem}{w0 w:World}{a0 a:Act}{listed:Array Bool}{q:Nat}
theorem FE {A B:Array Value}(hs:A.size=B.size){t:Nat}(h:A.getD t undef=B.getD t undef):A[t]?=B[t]?:=by
 by_cases ht:t<A.size;have a:t<B.size:=by omega
 rw [acw ht,acw a];simp only [Array.getD,ht,a,dif_pos] at h;rw [show A.getInternal t ht=A[t] from rfl,show B.getInternal t a=B[t] from rfl] at h;rw [h];rw [amC (aln ht),amC (by omega)]
theorem MB {a b:Act}{o:Oper}(h:∀t∈BO ops o,a.tmps.getD t undef=b.tmps.getD t undef):∀x∈o.op.operands,a.eval x=b.eval x:=by
 intro x c;cases x with
 | tmp t=>exact h t (agu _ (List.mem_filterMap.2 ⟨.tmp t,by simpa using c,rfl⟩))
 | _=>rfl
theorem GJ {A B:Array Value}(hs:A.size=B.size){o:Oper}(h:∀t∈BO ops o,A.getD t undef=B.getD t undef):Region.wanted o (yielded ops A)=Region.wanted o (yielded ops B):=by
 unfold Region.wanted;cases hg:o.guard with
 | none=>rfl
 | some p=>
  obtain⟨g,a⟩:=p;have:yielded ops A g=yielded ops B g:=by
   unfold yielded;cases ht:(ops[g]?).bind (·.dst) with
   | none=>rfl
   | some t=>have:=FE hs (h t (agV _ (by simp [hg,ht])));simp [this]
  simp only [this]
theorem ada (o:Zc):oh id o=o:=by cases o<;>simp [oh]
theorem adb (o:SV):Lh id o=o:=by cases o<;>simp [Lh]
theorem ade (o:Xi):PV id o=o:=by cases o<;>simp [PV]
theorem adf (o:YI):Fe id o=o:=by cases o<;>simp [Fe]
theorem lW {b:Op}{a:List (Option Nat)}{c:CY}(h:jS P slots a b=some c):∀cs bl,b≠.select cs bl:=by rintro cs bl rfl;cases h
theorem aA1 {ls b:List d9}{env a:T d9}{o:Zc}(h:∀x∈jX o,Sm id ls env b a x):qJ o b a=qJ o ls env:=by have:=Mj h;rwa [ada] at this
theorem aA2 {ls b:List d9}{env a:T d9}{o:SV}(h:∀x∈II o,Sm id ls env b a x)(m:Mem):xJ o b a m=xJ o ls env m:=by have:=Ml h m;rwa [adb] at this
theorem aA3 {ls b:List d9}{env a:T d9}{o:Xi}(h:∀x∈opsL o,Sm id ls env b a x)(i:Nat):Gr o b a i=Gr o ls env i:=by have:=Mq h i;rwa [ade] at this
theorem amQ {ls b:List d9}{env a:T d9}{o:YI}(h:∀x∈opsE o,Sm id ls env b a x)(cf:H7)(m:Mem):wR o cf b a m=wR o cf ls env m:=by have:=Mr h cf m;rwa [adf] at this
theorem GK {a b:Act}{o:Oper}(h:execOp a.eval o=execOp b.eval o){w:World}{R:Ending->World->Prop}(c:nU P b.eval o w R):nU P a.eval o w R:=by unfold nU at *;rw [h];exact c
theorem XM {M:Nat}(F:Fixed P slots nt cf b ops ord X S)(d:M<=ord.length)(a:∀p,p<M->Lp ord listed p=true):∀p,p<=M->DU ord X S listed p=(S p).env:=by
 intro p;induction p with
 | zero=>intro _;rfl
 | succ p ih=>intro e;obtain⟨_,c⟩:=F.ls (p:=p) (by omega);rw [c,← ih (by omega)];show fB (X p).2.dst (vm ord S listed p) _=_;simp [vm,a p (by omega)]
theorem nP.aY {r:Option Nat}(ai:uq P G cf)(F:Fixed P slots nt cf b ops ord X S)(hb:m0.lim<=b)(al:bY ι0 (m0.nm ι0) slots (S 0).env a0.tmps)(a1:nt<=a0.tmps.size)(D:nP P G b ops ord X S ι0 m0 w0 a0 listed a w ι q)
  {N i:Nat} {o:Oper} {eo:YI} {y:d9} {m':Mem} (hp:ord[N]?=some i) (ho:ops[i]?=some o) (a3:listed.getD i false=false) (hr:∀e∈o.after,Region.binds .any e=true->listed.getD e.on false=true)
  (hx:(X N).2.op=.e eo) (g:NM (X N).2.guard (wR eo) cf (S N).ls (S N).env (S N).m=some [⟨.aY y,m'⟩]) (ak:∀p,N<p->p<ord.length->(X p).2.dst=none) {K:Act->World->Prop} {Q:Exit->Act->World->Prop}
  (hQ:∀ι' w',Step P G ι0 m0 w0 ι' m' w'->y.lt (m'.nm ι')->bY ι' (m'.nm ι') slots (S N).env a.tmps->Q (.panic [{v:=u7 ι' y,recovered:=false}]) a w'):wpOpIn (FR r) 0 P ops Q i K a w:=by
 have hi:i<listed.size:=by rw [D.len];exact (wu.1 ho).1
 have a2:N<ord.length:=(gB.1 hp).1;have au:q<=N:=by rcases agU N q with h | h;have:=D.low N h;rw [pQ hp,a3] at this;cases this;exact h
 obtain⟨d,rfl⟩:∃d,N=q+d:=⟨N-q,by omega⟩;have B:∀j,JH ops i j->listed.getD j false=true:=λj V=>V.listed D.closed λo' M e U a5=>by rw [ho] at M;cases M;exact hr e U a5
 obtain⟨o',M,ap,ar,hg⟩:=F.inst (q+d) i hp;rw [ho] at M;cases M;have s:=D.st F hb al a1 d (by omega) (q+d) (aA _);let af:Act:={tmps:=QS ops ord S listed ι a0 (q+d),defers:=[]}
 have I:∀t∈BO ops o,a.tmps.getD t undef=af.tmps.getD t undef:=λt ht=>D.looks F a1 hp ho a3 B ht;have ae:a.tmps.size=af.tmps.size:=by rw [D.sz];exact rG _ |>.symm
 have a4:=GJ ae I;have aq:=qL (tmps:=af.tmps) s hg;have am:(∀cs bl,o.op≠.select cs bl)->execOp a.eval o=execOp af.eval o:=λhs=>execOp_congr o hs (MB I);have ad:∀y∈IJ (X (q+d)).2.op,Sm id (S (q+d)).ls (S (q+d)).env (XL ord S listed (q+d)) (DU ord X S listed (q+d)) y:=λy hy=>D.opd F a2 B (F.opd _ i hp y hy);have f:=D.lay F hb d (by omega);have T:∀y R,(X (q+d)).2.guard=some (y,R)->J4 y (XL ord S listed (q+d)) (DU ord X S listed (q+d))=J4 y (S (q+d)).ls (S (q+d)).env:=λy R h=>D.opd F a2 B (F.opdg _ i y R hp h);have O:Region.wanted o (yielded ops a.tmps)=xu (X (q+d)).2.guard (S (q+d)).ls (S (q+d)).env:=by
  rw [a4,aq];cases hgd:(X (q+d)).2.guard with
  | none=>rfl
  | some z=>obtain⟨y,R⟩:=z;simp only [xu];rw [T y R hgd]
 have a6:∀{ao},(X (q+d)).2.op=ao->ao≠.e .bad->jS P slots (jM ops ord (q+d)) o.op=some ao:=by intro ao g h2;rw [ap] at g;unfold rA at g;split at g;rename_i a' ha;rw [ha,g];exact absurd g.symm h2
 have hE:K9 (X (q+d)).2=true:=by simp [K9,hx]
 have C:∀k,k<d->Lp ord listed (q+k)=true:=λk hk=>by
  have a9:q+k<ord.length:=by omega
  have:=B _ (F.eff (q+d) i hp hE (q+k) _ (by omega) (cB a9));rw [pQ (cB a9)];exact this
 have ab:∀k,k<d->K9 (X (q+k)).2=false:=λk hk=>by
  cases U:K9 (X (q+k)).2 with
  | false=>rfl
  | true=>have g:=D.high (q+k) (by omega) U;rw [C k hk] at g;cases g
 have aa:=F.lay_all (L:=Lp ord listed) d (by omega) λk hk=>⟨C k hk,ab k hk⟩;rw [aa] at s f;have J:∀p,p<q+d->Lp ord listed p=true:=λp h=>by
  by_cases hpq:p<q;exact D.low p hpq;have:=C (p-q) (by omega)
  rwa [show q+(p-q)=p from by omega] at this
 have a7:bY ι ((S (q+d)).m.nm ι) slots (S (q+d)).env a.tmps:=by
  have U:=s.env;rw [XM F (ae1 a2) J (q+d) (aA _)] at U;refine⟨U.ok,U.small,λt j ht=>?_⟩;obtain⟨g1,v,g2,g3,g4⟩:=U.val t j ht;refine⟨by rw [ae];exact g1,v,g2,g3,?_⟩;rw [← g4];by_cases hw:∃(W:Nat) (oj:Oper),ops[W]?=some oj∧oj.dst=some t;obtain⟨W,oj,V,H⟩:=hw;obtain⟨p',n⟩:=acu (F.all W (wu.1 V).1);have ac:=(gB.1 n).1;by_cases hlt:p'<q+d;have hL:=J p' hlt;rw [pQ n] at hL;rw [D.tw p' W oj t n hL V H,JK F a1 n V H (q+d) hlt];have ah:=J p' hlt;simp [vm,ah];by_cases heq:p'=q+d;subst heq;obtain rfl:W=i:=su (n.symm.trans hp);have e1:=D.tn t λY Z (hl2:listed.getD Y false=true) l A=>by obtain rfl:=F.dsts Y W Z oj t l V A H;rw [a3] at hl2;cases hl2
  have e2:=zy (ops:=ops) (ord:=ord) (S:=S) (listed:=listed) (ι:=ι) (a0:=a0) (t:=t) (q+d) λr2 Y Z av a8 l A=>by obtain rfl:=F.dsts Y W Z oj t l V A H;have:=(adU (gB.1 a8).1 F.nodup).1 (a8.trans n.symm);omega
  rw [e1,e2];exfalso;have E:=ak p' (by omega) ac;obtain⟨Z,l,_,aj,_⟩:=F.inst p' W n;rw [V] at l;cases l;rw [aj,H] at E;have E:idxOf t slots 0=none:=E;rw [ht] at E;cases E;rw [D.tn t λY Z _ l A=>hw ⟨Y,Z,l,A⟩,zy (q+d) λr2 Y Z _ _ l A=>hw ⟨Y,Z,l,A⟩]
 show wpOpIn (FR r) 0 P ops Q i K a w;unfold wpOpIn;simp only [ho];rw [O];have ag:wR eo cf (S (q+d)).ls (S (q+d)).env (S (q+d)).m=some [⟨.aY y,m'⟩]->o.wpIn (FR r) 0 P a w K Q:=by
  intro g;have an:CY.e eo≠.e .bad:=by intro h;cases h;cases g
  have hc:=a6 hx an;rw [hx] at ad;rw [← amQ ad] at g;have:=FB (a:=af) ai s f.rm hc g o rfl;refine qH (JD (cf:=cf) hc g) (GK (am (lW hc)) this) ?_ ?_ λ_=>uw;rintro u w' (⟨_,hu,x,hxm,ι',g1,g2,rfl⟩ | ⟨_,_,_,_,_,_,_,h⟩);obtain rfl:=nA.1 hxm;exact g2.elim;cases h;rintro c w' (⟨_,hu,_⟩ | ⟨x,hxm,y',ι',hxy,g1,g2,g3⟩);cases hu;obtain rfl:=nA.1 hxm;cases hxy;cases g3;exact hQ ι' w' (f.trans g1) g2 (g1.env a7)
 cases hgd:(X (q+d)).2.guard with
 | none=>rw [hgd] at g;exact ag g
 | some z=>
  obtain⟨y',R⟩:=z;rw [hgd] at g;have g:bi (sw R (J4 y' (S (q+d)).ls (S (q+d)).env)) (wR eo cf (S (q+d)).ls (S (q+d)).env (S (q+d)).m) (one .undef (S (q+d)).m)=some [⟨.aY y,m'⟩]:=g;rw [show xu (some (y',R)) (S (q+d)).ls (S (q+d)).env=sw R (J4 y' (S (q+d)).ls (S (q+d)).env) from rfl];cases hB:sw R (J4 y' (S (q+d)).ls (S (q+d)).env) with
  | true=>rw [hB] at g;exact ag g
  | false=>rw [hB] at g;have g:[(⟨.undef,(S (q+d)).m⟩:VM)]=[⟨.aY y,m'⟩]:=su g;simp at g
theorem Ov {x:OF}{ls:List d9}{env:T d9}{M M':Mem}{id off len a:Nat}(c:x ls env=.slice id off len a)(b:M.get id=M'.get id):aT x ls env M=aT x ls env M':=by
 have h:Y0 M id off len=Y0 M' id off len:=by unfold Y0;rw [b]
 unfold aT;rw [c];show ob (Y0 M id off len) _=ob (Y0 M' id off len) _;rw [h]
theorem nP.op {r:Option Nat}(bg:uq P G cf)(F:Fixed P slots nt cf b ops ord X S)(hb:m0.lim<=b)(bh:bY ι0 (m0.nm ι0) slots (S 0).env a0.tmps)(a8:nt<=a0.tmps.size)(D:nP P G b ops ord X S ι0 m0 w0 a0 listed a w ι q)
  {i:Nat} {o:Oper} (ho:ops[i]?=some o) (a9:listed.getD i false=false) (hr:∀e∈o.after,Region.binds .any e=true->listed.getD e.on false=true) (hD:∀p,ord[p]?=some i->DStep cf b (X p) (S p) (S (p+1))) {K:Act->World->Prop} {Q:Exit->Act->World->Prop}
  (hK:∀a' w' ι' q',nP P G b ops ord X S ι0 m0 w0 a0 (listed.setIfInBounds i true) a' w' ι' q'->K a' w'):wpOpIn (FR r) 0 P ops Q i K a w:=by
 have hi:i<listed.size:=by rw [D.len];exact (wu.1 ho).1
 obtain⟨p,hp⟩:=acu (F.all i (wu.1 ho).1);have aq:p<ord.length:=(gB.1 hp).1;have bz:q<=p:=by rcases agU p q with h | h;have:=D.low p h;rw [pQ hp,a9] at this;cases this;exact h
 obtain⟨d,rfl⟩:∃d,p=q+d:=⟨p-q,by omega⟩;have Z:∀j,JH ops i j->listed.getD j false=true:=λj hj=>hj.listed D.closed λo' ag e he b4=>by rw [ho] at ag;cases ag;exact hr e he b4
 obtain⟨o',ag,bn,bv,hg⟩:=F.inst (q+d) i hp;rw [ho] at ag;cases ag;have s:=D.st F hb bh a8 d (by omega) (q+d) (aA _);let af:Act:={tmps:=QS ops ord S listed ι a0 (q+d),defers:=[]}
 have ad:∀t∈BO ops o,a.tmps.getD t undef=af.tmps.getD t undef:=λt ht=>D.looks F a8 hp ho a9 Z ht;have bq:a.tmps.size=af.tmps.size:=by rw [D.sz];exact rG _ |>.symm
 have az:=GJ bq ad;have bt:=qL (tmps:=af.tmps) s hg;have a7:(∀cs bl,o.op≠.select cs bl)->execOp a.eval o=execOp af.eval o:=λI=>execOp_congr o I (MB ad);have b2:=TJ (listed:=listed) F.nodup hp hi;have a5:∀r,Lp ord listed r=true->Lp ord (listed.setIfInBounds i true) r=true:=λr hL=>by rw [b2];split<;>simp [hL]
 have a2:∀y∈IJ (X (q+d)).2.op,Sm id (S (q+d)).ls (S (q+d)).env (XL ord S listed (q+d)) (DU ord X S listed (q+d)) y:=λy hy=>D.opd F aq Z (F.opd _ i hp y hy);have E:=D.lay F hb d (by omega);have LFd:=F.lay D.head D.base.rm.ok (Lp ord listed) d (by omega);obtain⟨v,_,_,I⟩:=hD (q+d) hp;have C:Ak S (q+d)=v:=by simp [Ak,‹(S (q+d+1)).ls=_›]
 have ap:∀y O,(X (q+d)).2.guard=some (y,O)->J4 y (XL ord S listed (q+d)) (DU ord X S listed (q+d))=J4 y (S (q+d)).ls (S (q+d)).env:=λy O h=>D.opd F aq Z (F.opdg _ i y O hp h);have ai:Region.wanted o (yielded ops a.tmps)=xu (X (q+d)).2.guard (S (q+d)).ls (S (q+d)).env:=by
  rw [az,bt];cases hgd:(X (q+d)).2.guard with
  | none=>rfl
  | some z=>obtain⟨y,O⟩:=z;simp only [xu];rw [ap y O hgd]
 have b9:((dH b X S q (Lp ord listed) d).nm ι).le ((dH b X S q (Lp ord (listed.setIfInBounds i true)) (d+1)).nm ι):=
  Mem.cK (λj hj=>F.DT D.head D.base.rm.ok (by omega) (by omega) (λk _ h=>a5 _ h) hj) λ_ _=>rfl
 have a1:K9 (X (q+d)).2=false->iy b X S (q+d)=none->(Ak S (q+d)).lt ((dH b X S q (Lp ord listed) d).nm ι)->K (a.put o.dst (u7 ι (Ak S (q+d)))) w:=by intro hE B N;exact hK _ _ ι q (D.quiet F a8 hp ho a9 hr hE (ι':=ι) (w':=w) (Step.refl D.base.rm) (λ_ _=>rfl) (λ_ _=>rfl) (λid am h=>by rw [B] at h;cases h) (d9.aR b9 _ N))
 show wpOpIn (FR r) 0 P ops Q i K a w;unfold wpOpIn;simp only [ho];rw [ai];have al:K9 (X (q+d)).2=false->iy b X S (q+d)=none->Ak S (q+d)=.undef->(∀f,o.about P w a.eval=some f->(FR r).fn f)∧K (a.put o.dst undef) w:=by intro hE B J;refine⟨λ_ _=>trivial,?_⟩;have:=a1 hE B (by rw [J];trivial);rw [J,oF] at this;exact this
 have a6:∀{ao},(X (q+d)).2.op=ao->ao≠.e .bad->jS P slots (jM ops ord (q+d)) o.op=some ao:=by intro ao A h2;rw [bn] at A;unfold rA at A;split at A;rename_i a' ha;rw [ha,A];exact absurd A.symm h2
 cases hx:(X (q+d)).2.op with
 | p po=>
  rw [hx] at I a2;obtain⟨A,_,_⟩:=I;have hE:K9 (X (q+d)).2=false:=by simp [K9,hx]
  have B:iy b X S (q+d)=none:=by simp [iy,hx]
  have Y:=a6 hx (by simp);have W:qJ po (S (q+d)).ls (S (q+d)).env=some v->o.wpIn (FR r) 0 P a w K Q:=by
   intro A;rw [← aA1 a2] at A;obtain⟨M,U⟩:=vT (a:=af) s Y A;refine lD (uZ Y (λ_ _ h=>by cases h)) (R:=λu w'=>u=u7 ι v∧w'=w) ?_ ?_;exact bB (by rw [a7 (lW Y)];exact U o rfl w) ⟨rfl,rfl⟩;rintro u w' ⟨rfl,rfl⟩;have:=a1 hE B (by rw [C];exact M)
   rwa [C] at this
  cases hgd:(X (q+d)).2.guard with
  | none=>rw [hgd] at A;exact W A
  | some z=>
   obtain⟨y,O⟩:=z;rw [hgd] at A;have A:bi (sw O (J4 y (S (q+d)).ls (S (q+d)).env)) (qJ po (S (q+d)).ls (S (q+d)).env) (some .undef)=some v:=A;rw [show xu (some (y,O)) (S (q+d)).ls (S (q+d)).env=sw O (J4 y (S (q+d)).ls (S (q+d)).env) from rfl];cases hB:sw O (J4 y (S (q+d)).ls (S (q+d)).env) with
   | true=>rw [hB] at A;exact W A
   | false=>rw [hB] at A;cases A;exact al hE B C
 | r ro=>
  rw [hx] at I a2;obtain⟨A,_,_,_⟩:=I;have hE:K9 (X (q+d)).2=false:=by simp [K9,hx]
  have B:iy b X S (q+d)=none:=by simp [iy,hx]
  have Y:=a6 hx (by simp);have ax:xJ ro (S (q+d)).ls (S (q+d)).env (dH b X S q (Lp ord listed) d)=some v->o.wpIn (FR r) 0 P a w K Q:=by
   intro A;rw [← aA2 a2] at A;obtain⟨M,U⟩:=vU (a:=af) s E.rm (zf Y) A;refine lD (uZ Y (λ_ _ h=>by cases h)) (R:=λu w'=>u=u7 ι v∧w'=w) ?_ ?_;exact bB (by rw [a7 (lW Y)];exact U o rfl) ⟨rfl,rfl⟩;rintro u w' ⟨rfl,rfl⟩;have:=a1 hE B (by rw [C];exact M)
   rwa [C] at this
  rcases A with⟨A,h2⟩ | ⟨hgn,y,id,off,len,cp,rfl,hv1,au,hv3,hv4⟩
  case inr=>
   obtain⟨q0,k1,k2,k3⟩:=QO X (q+d);have bx:q<=q0:=by rcases D.head with h0 | hh;omega;rcases agU q0 q with N | hge;have:=k3 (q-1) (by omega) (by omega);rw [this] at hh;cases hh;exact hge
   obtain⟨d0,an⟩:∃d0,q+d=q0+d0:=⟨q+d-q0,by omega⟩;have bj:hd (S (q+d)).m (S (q+d)).gs=(S q0).m:=by
    obtain⟨rr,r1,r2⟩:=F.gs k2 d0 (by omega);rw [← an] at r1 r2;cases rr with
    | succ rr=>obtain⟨b0,e,M,U,_,g4,_⟩:=r2 0 (by omega);rw [k3 b0 M U] at g4;cases g4
    | zero=>
     cases hgs:(S (q+d)).gs with
     | nil=>rw [hgs] at r1;simp at r1
     | cons g gs=>rw [hgs] at r1;simp at r1;exact r1
   rw [bj] at au;have au:=zx au;obtain⟨y1,aj⟩:∃y1,(S (q+d)).m.get id=some y1:=by
    cases hgt:(S (q+d)).m.get id with
    | none=>rw [hgt] at hv3;cases hv3
    | some y1=>exact⟨y1,rfl⟩
   rw [an] at aj k3;rcases F.since (q:=q0) d0 (by omega) k3 aj with h | ⟨p',p1,p2,p3⟩;rw [au] at h;cases h;rw [an,aj] at hv3;cases hv3;rw [← an] at aj p2;obtain⟨x,bu⟩:∃x,ay P slots (jM ops ord (q+d)) x=some y:=by
    have:=zf Y;revert this;generalize o.op=op';intro h;cases h with
    | bytesStr _ _ _ hx=>exact⟨_,hx⟩
   have N:=(G5 (a:=af) s bu).2;have bd:J4 y (XL ord S listed (q+d)) (DU ord X S listed (q+d))=J4 y (S (q+d)).ls (S (q+d)).env:=D.opd F aq Z (F.opd _ i hp y (by rw [hx];simp [IJ,II]));rw [bd,hv1] at N;simp only [d9.lt] at N;obtain⟨y',M,U⟩:=N;have b6:(dH b X S q (Lp ord listed) d).get id=(S (q+d)).m.get id:=by rcases LFd.from_ id y' M with h | ⟨d',e1,e2,e3⟩;have:=F.Il D.head (show q<=p' by omega) (by omega) p3;rw [this] at h;cases h;cases U;rcases azN (q+d') p' with N | heq | hgt;exact absurd (F.Mx N (by omega) e3 p3) (alT _);subst heq;rw [e3] at p3;cases p3;rw [M,aj];exact absurd (F.Mx hgt (by omega) p3 e3) (alT _)
   rw [hgn];refine ax ?_;show aT (J4 y) _ _ _=_;rw [Ov hv1 b6];exact hv4
  obtain⟨rr,V,bo⟩:=F.gs D.head d (by omega);have c0:rr<=(X (q+d)).1:=by
   rw [F.cnt (q+d) i ro hp hx];refine Bz _ _ _ λk hk=>?_;obtain⟨b0,e,M,U,g3,g4,g5⟩:=bo k hk;refine⟨e,g5,?_⟩;cases hm:mOf (masks ops.toList) i e with
   | false=>rfl
   | true=>have h3:=Z e (rF ops i e hm);have h4:=D.high b0 M g4;rw [pQ g3,h3] at h4;cases h4
  have H:Da (X (q+d)).2.guard (xJ ro) (S (q+d)).ls (S (q+d)).env (S q).m=some v:=by
   cases rr with
   | zero=>
    have:hd (S (q+d)).m (S (q+d)).gs=(S q).m:=by
     cases hgs:(S (q+d)).gs with
     | nil=>rw [hgs] at V;simp at V
     | cons g gs=>rw [hgs] at V;simp at V;exact V
    rw [this] at A;exact A
   | succ rr=>
    obtain⟨g,M,U⟩:=GI h2 rr (by omega);have:g=(S q).m:=by
     cases hgs:(S (q+d)).gs with
     | nil=>rw [hgs] at V;simp at V
     | cons g' gs=>rw [hgs] at V M;have M:gs[rr]?=some g:=M;simp at V;rw [M] at V;exact su V
    rw [this] at U;exact U
  have W:xJ ro (S (q+d)).ls (S (q+d)).env (S q).m=some v->o.wpIn (FR r) 0 P a w K Q:=λA=>ax (ad9 LFd.sub A);cases hgd:(X (q+d)).2.guard with
  | none=>rw [hgd] at H;exact W H
  | some z=>
   obtain⟨y,O⟩:=z;rw [hgd] at H;have H:bi (sw O (J4 y (S (q+d)).ls (S (q+d)).env)) (xJ ro (S (q+d)).ls (S (q+d)).env (S q).m) (some .undef)=some v:=H;rw [show xu (some (y,O)) (S (q+d)).ls (S (q+d)).env=sw O (J4 y (S (q+d)).ls (S (q+d)).env) from rfl];cases hB:sw O (J4 y (S (q+d)).ls (S (q+d)).env) with
   | true=>rw [hB] at H;exact W H
   | false=>rw [hB] at H;cases H;exact al hE B C
 | a lo=>
  rw [hx] at I a2;obtain⟨res,A,J,_,_,_,_⟩:=I;have hE:K9 (X (q+d)).2=false:=by simp [K9,hx]
  have Y:=a6 hx (by simp);have av:res.2=none->iy b X S (q+d)=none:=λh=>by obtain⟨u,bl⟩:=res;obtain rfl:bl=none:=h;simp [iy,hx,A]
  have W:Gr lo (S (q+d)).ls (S (q+d)).env (b+(X (q+d)).1)=some res->o.wpIn (FR r) 0 P a w K Q:=by
   intro h3;rw [← aA3 a2] at h3;have bc:∀bl,res.2=some bl->¬ ((dH b X S q (Lp ord listed) d).nm ι) (b+(X (q+d)).1):=by
    rintro bl hbl ⟨y,M,U⟩;have hm:iy b X S (q+d)=some (b+(X (q+d)).1,bl):=by obtain⟨u,bf⟩:=res;obtain rfl:bf=some bl:=hbl;simp [iy,hx,A]
    rw [LFd.later (q+d) _ bl (aA _) aq hm] at M;cases M;cases U
   obtain⟨u,bl⟩:=res;cases bl with
   | none=>
    have B:=av rfl;have ar:=make_none (a:=af) s E.rm Y h3 w;refine lD (uZ Y (λ_ _ h=>by cases h)) (R:=λx w'=>x=u7 ι u∧w'=w) ?_ ?_;exact bB (by rw [a7 (lW Y)];exact ar.2 o rfl w) ⟨rfl,rfl⟩;rintro x w' ⟨rfl,rfl⟩;have:=a1 hE B (by rw [C,J];exact ar.1)
    rwa [C,J] at this
   | some bl=>
    have hm:iy b X S (q+d)=some (b+(X (q+d)).1,bl):=(by simp [iy,hx,A]);have hn:=bc bl rfl;have ar:=vX (a:=af) s (λ_ _=>rfl) hn (Dr Y) h3 w;have b7:∀l:Loc,∀j,(∀am,iy b X S (q+d)≠some (j,am))->(ι.upd (b+(X (q+d)).1) l) j=ι j:=λl j hj=>ι.upd_ne l λe=>hj bl (by rw [e];exact hm);have b3:¬ (S q).m.has (b+(X (q+d)).1):=λ⟨y,M,U⟩=>hn ⟨y,LFd.sub _ y M U,U⟩;have aw:∀l:Loc,∀j,(dH b X S q (Lp ord listed) d).has j->(ι.upd (b+(X (q+d)).1) l) j=ι j:=λl j hj=>ι.upd_ne l λe=>hn (e▸hj);have ac:∀l:Loc,((dH b X S q (Lp ord listed) d).nm ι).le ((dH b X S q (Lp ord (listed.setIfInBounds i true)) (d+1)).nm (ι.upd (b+(X (q+d)).1) l)):=λl=>Mem.cK (λj hj=>F.DT D.head D.base.rm.ok (by omega) (by omega) (λk _ h=>a5 _ h) hj) (aw l)
    have ah:jT bl=false->(dH b X S q (Lp ord (listed.setIfInBounds i true)) (d+1)).has (b+(X (q+d)).1):=λbs=>⟨bl,(F.lay D.head D.base.rm.ok _ (d+1) (by omega)).laid d _ bl (by omega) (by rw [b2,if_pos rfl]) hm,bs⟩;have ab:∀l:Loc,((dH b X S q (Lp ord (listed.setIfInBounds i true)) (d+1)).nm (ι.upd (b+(X (q+d)).1) l)).cap (b+(X (q+d)).1)=l.cap:=λl=>(by show ((ι.upd (b+(X (q+d)).1) l) (b+(X (q+d)).1)).cap=l.cap;rw [N9.aJ]);cases ar with
    | made l obj w' B=>
     obtain⟨M,U⟩:=B.blk _ (ac l) (ah B.live) (ab l);refine lD (uZ Y (λ_ _ h=>by cases h)) (R:=λx a4=>x=u7 (ι.upd (b+(X (q+d)).1) l) u∧a4=w') ?_ ?_;exact bB (by rw [a7 (lW Y)];exact B.run o rfl) ⟨rfl,rfl⟩;rintro x a4 ⟨rfl,rfl⟩;have:=D.quiet F a8 hp ho a9 hr hE (ι':=ι.upd (b+(X (q+d)).1) l) (w':=a4) (Step.push D.base.rm B.grew λj hj=>ι.upd_ne l λe=>b3 (e▸hj))
      (λk hk=>by rw [B.grew.heap];exact (azW hk).trans (acw hk).symm) (b7 l) (λid am ae=>?_) (by rw [C,J];exact U)
     rw [C,J] at this;exact hK _ _ _ q this;rw [hm] at ae;cases ae;rw [N9.aJ];refine⟨by rw [B.grew.heap];exact M,B.live,λ_=>⟨⟨B.loc,B.spot⟩,λc e fz b5=>?_⟩⟩;rw [B.grew.heap,B.loc,kL] at b5;exact B.free c e fz (su b5)
    | @tail _ pp l hpn hbb hgv N=>
     refine lD (uZ Y (λ_ _ h=>by cases h)) (R:=λx a4=>x=u7 (ι.upd (b+(X (q+d)).1) l) u∧a4=w) ?_ ?_;exact bB (by rw [a7 (lW Y)];exact hgv o rfl w) ⟨rfl,rfl⟩;rintro x a4 ⟨rfl,rfl⟩;have:=D.quiet F a8 hp ho a9 hr hE (ι':=ι.upd (b+(X (q+d)).1) l) (w':=a4) ((Step.refl D.base.rm).rename λj hj=>ι.upd_ne l λe=>b3 (e▸hj))
      (λk hk=>rfl) (b7 l) (λid am ae=>?_) (by rw [C,J];exact N _ (ac l) (ah rfl) (ab l))
     rw [C,J] at this;exact hK _ _ _ q this;rw [hm] at ae;cases ae;rw [N9.aJ];refine⟨⟨(ac l pp hpn).1,?_⟩,rfl,λhl=>by cases hl⟩;rw [aw l pp hpn];exact hbb
  cases hgd:(X (q+d)).2.guard with
  | none=>rw [hgd] at A;exact W A
  | some z=>
   obtain⟨y,O⟩:=z;have a3:=A;rw [hgd] at a3;have a3:bi (sw O (J4 y (S (q+d)).ls (S (q+d)).env)) (Gr lo (S (q+d)).ls (S (q+d)).env (b+(X (q+d)).1)) (some (.undef,none))=some res:=a3;rw [show xu (some (y,O)) (S (q+d)).ls (S (q+d)).env=sw O (J4 y (S (q+d)).ls (S (q+d)).env) from rfl];cases hB:sw O (J4 y (S (q+d)).ls (S (q+d)).env) with
   | true=>rw [hB] at a3;exact W a3
   | false=>rw [hB] at a3;cases a3;exact al hE (av rfl) (by rw [C,J])
 | e eo=>
  rw [hx] at I a2;obtain⟨A,_,bm⟩:=I;have hE:K9 (X (q+d)).2=true:=by simp [K9,hx]
  have aa:∀k,k<d->Lp ord listed (q+k)=true:=λk hk=>by
   have b8:q+k<ord.length:=by omega
   have:=Z _ (F.eff (q+d) i hp hE (q+k) _ (by omega) (cB b8));rw [pQ (cB b8)];exact this
  have bb:∀k,k<d->K9 (X (q+k)).2=false:=λk hk=>by
   cases he:K9 (X (q+k)).2 with
   | false=>rfl
   | true=>have A:=D.high (q+k) (by omega) he;rw [aa k hk] at A;cases A
  have ba:=F.lay_all (L:=Lp ord listed) d (by omega) λk hk=>⟨aa k hk,bb k hk⟩;rw [ba] at s E;have b1:∀ι' w',Step P G ι (S (q+d)).m w ι' (S (q+d+1)).m w'->v.lt ((S (q+d+1)).m.nm ι')->K (a.put o.dst (u7 ι' v)) w':=by intro ι' w' bp N;obtain⟨bw,M,U⟩:=D.effect F hb a8 hp ho a9 hr hE aa bp (by rw [C];exact N);rw [M,C] at U;exact hK _ _ _ _ U
  have W:wR eo cf (S (q+d)).ls (S (q+d)).env (S (q+d)).m=some [⟨v,(S (q+d+1)).m⟩]->o.wpIn (FR r) 0 P a w K Q:=by
   intro A;have bk:CY.e eo≠.e .bad:=by intro h;cases h;cases A
   have Y:=a6 hx bk;rw [← amQ a2] at A;have:=FB (a:=af) bg s E.rm Y A o rfl;refine qH (JD (cf:=cf) Y A) (GK (a7 (lW Y)) this) ?_ ?_ λ_=>uw;rintro u w' (⟨_,hu,x,hxm,ι',M,U,rfl⟩ | ⟨_,_,_,_,_,_,_,h⟩);cases hu;obtain rfl:=nA.1 hxm;exact b1 ι' w' M U;cases h;rintro c w' (⟨_,hu,_⟩ | ⟨x,hxm,y,_,hxy,_⟩);cases hu;obtain rfl:=nA.1 hxm;exact absurd ⟨y,hxy⟩ bm
  cases hgd:(X (q+d)).2.guard with
  | none=>rw [hgd] at A;exact W A
  | some z=>
   obtain⟨y,O⟩:=z;rw [hgd] at A;have A:bi (sw O (J4 y (S (q+d)).ls (S (q+d)).env)) (wR eo cf (S (q+d)).ls (S (q+d)).env (S (q+d)).m) (one .undef (S (q+d)).m)=some [⟨v,(S (q+d+1)).m⟩]:=A;rw [show xu (some (y,O)) (S (q+d)).ls (S (q+d)).env=sw O (J4 y (S (q+d)).ls (S (q+d)).env) from rfl];cases hB:sw O (J4 y (S (q+d)).ls (S (q+d)).env) with
   | true=>rw [hB] at A;exact W A
   | false=>rw [hB] at A;have A:[(⟨.undef,(S (q+d)).m⟩:VM)]=[⟨v,(S (q+d+1)).m⟩]:=su A;simp only [List.cons.injEq,VM.mk.injEq,and_true] at A;obtain⟨J,hm⟩:=A;refine⟨λ_ _=>trivial,?_⟩;have:=b1 ι w (by rw [← hm];exact Step.refl E.rm) (by rw [← J];trivial);rw [← J,oF] at this;exact this
where
 make_none {P:Program} {G:Mem} {ι:N9} {m:Mem} {w0:World} {slots:List Nat} {done:List (Option Nat)} {ls:List d9} {env:T d9} {a:Act} (s:St P ι (m.nm ι) slots done ls env a.tmps) (hm:RM P G ι m w0.heap) {op:Op} {lo:Xi} (h:jS P slots done op=some (.a lo)) {u:d9} {nid:Nat}
   (J:Gr lo ls env nid=some (u,none)) (w:World):u.lt (m.nm ι)∧Gives P a.eval op (u7 ι u):=by
  have hn:¬ (m.nm ι) m.nx:=λ⟨_,h3,_⟩=>alT _ (Mem.Q6 hm.ok h3);have br:=sl_place J m.nx;have I:=vX (a:=a) s (λ_ _=>rfl) hn (Dr h) br w;cases I with
  | none A h2=>exact⟨A,h2⟩
 sl_place {lo:Xi} {ls:List d9} {env:T d9} {u:d9} {nid:Nat} (J:Gr lo ls env nid=some (u,none)) (nid':Nat):Gr lo ls env nid'=some (u,none):=by
  cases lo with
  | alloc z=>cases J
  | box x=>cases J
  | mkMap=>cases J
  | buildSlice es len z ps=>obtain⟨c,A,h⟩:=D9 J;obtain⟨c2,h2,h⟩:=D9 h;cases h
  | mkSlice es by' z l c=>obtain⟨_,_,_,h⟩:=jh J;obtain⟨_,_,_,h⟩:=jh h;obtain⟨_,h⟩:=J9 h;obtain⟨_,h⟩:=J9 h;obtain⟨_,h⟩:=J9 h;cases h
  | strBytes x=>obtain⟨_,_,h⟩:=sS J;obtain⟨_,_,h⟩:=D9 h;cases h
  | sl es x lo hi=>
   have be:∀l h,K6 nid es (J4 x ls env) l h=some (u,none)->K6 nid' es (J4 x ls env) l h=some (u,none):=by
    intro l h I;generalize J4 x ls env=X at I;cases X with
    | nilSlice=>exact I
    | slice=>exact I
    | sliceU id off len es'=>
     have hu:∀hh,K6.unk nid es l id off len es' hh=some (u,none)->K6.unk nid' es l id off len es' hh=some (u,none):=by
      intro hh I;unfold K6.unk at I ⊢;obtain⟨q1,I⟩:=J9 I;obtain⟨q2,I⟩:=J9 I;obtain⟨q3,I⟩:=J9 I;rw [q1,q2,q3];simp only [aH];cases hb:Nat.blt l len with
      | true=>rw [hb] at I;exact I
      | false=>
       rw [hb] at I;simp only [bA] at I ⊢;cases hz:Nat.beq l 0 with
       | true=>rw [hz] at I;exact I
       | false=>rw [hz] at I;cases I
     cases h with
     | none=>exact hu len I
     | some hh=>exact hu hh I
    | _=>exact I
   have J:je (nW lo) 0 ls env (λl=>Option.rec (K6 nid es (J4 x ls env) l none) (λh=>jL (h ls env) λh=>K6 nid es (J4 x ls env) l (some h)) (nW hi))=some (u,none):=J;show je (nW lo) 0 ls env (λl=>Option.rec (K6 nid' es (J4 x ls env) l none) (λh=>jL (h ls env) λh=>K6 nid' es (J4 x ls env) l (some h)) (nW hi))=some (u,none);have ak:∀l,(Option.rec (K6 nid es (J4 x ls env) l none) (λh=>jL (h ls env) λh=>K6 nid es (J4 x ls env) l (some h)) (nW hi):LR)=some (u,none)->
     (Option.rec (K6 nid' es (J4 x ls env) l none) (λh=>jL (h ls env) λh=>K6 nid' es (J4 x ls env) l (some h)) (nW hi):LR)=some (u,none):=by
    intro l h;cases ht:nW hi with
    | none=>rw [ht] at h;exact be l none h
    | some g=>rw [ht] at h;obtain⟨k,n,A,h2⟩:=jh h;show jL (g ls env) (λh=>K6 nid' es (J4 x ls env) l (some h))=_;rw [A];exact be l (some n) h2
   cases ht:nW lo with
   | none=>rw [ht] at J;exact ak 0 J
   | some g=>rw [ht] at J;obtain⟨k,n,A,h2⟩:=jh J;show jL (g ls env) _=_;rw [A];exact ak n h2
end
theorem uz {α:Type}{f:α->Option Nat}:∀{l:List α},(l.filterMap f).Nodup->∀{i j:Nat} {x y:α} {t:Nat},l[i]?=some x->l[j]?=some y->f x=some t->f y=some t->i=j
 | [],_,i,j,x,y,t,hi,_,_,_=>by simp at hi
 | z::l,h,i,j,x,y,t,hi,hj,hx,hy=>by
  have hmem:∀{k:Nat} {u:α},l[k]?=some u->f u=some t->t∈l.filterMap f:=λhk hu=>List.mem_filterMap.2 ⟨_,O7 hk,hu⟩;cases hz:f z with
  | none=>
   rw [List.filterMap_cons_none hz] at h;cases i with
   | zero=>simp at hi;subst hi;rw [hz] at hx;cases hx
   | succ i=>
    cases j with
    | zero=>simp at hj;subst hj;rw [hz] at hy;cases hy
    | succ j=>exact congrArg Nat.succ (uz h (i:=i) (j:=j) (by simpa using hi) (by simpa using hj) hx hy)
  | some u=>
   rw [List.filterMap_cons_some hz] at h;obtain⟨h1,h2⟩:=aCh.1 h;cases i with
   | zero=>
    simp at hi;subst hi;rw [hz] at hx;cases hx;cases j with
    | zero=>rfl
    | succ j=>exact absurd (hmem (by simpa using hj) hy) h1
   | succ i=>
    cases j with
    | zero=>simp at hj;subst hj;rw [hz] at hy;cases hy;exact absurd (hmem (by simpa using hi) hx) h1
    | succ j=>exact congrArg Nat.succ (uz h2 (i:=i) (j:=j) (by simpa using hi) (by simpa using hj) hx hy)
section
variable {P:Program}{G:Mem}{slots:List Nat}{nt:Nat}{cf:H7}{ops:Array Oper}
theorem Ow {α:Type}(l:List α)(p k:Nat)(hp:p<=l.length)(a:k<p):(l.take p).reverse[k]?=l[p-1-k]?:=by rw [List.getElem?_reverse (by simp;omega),adX,adP,if_pos (by omega)];congr 1;omega
theorem adg {ord:List Nat}{X:Nat->Nat×Inst}{a:List Inst}(b:a.length=ord.length)(g:∀p x,a[p]?=some x->(X p).2=x):∀p,p<=ord.length->
  DR ord X p=(((((ord.zip a).take p).filter λy=>K9 y.2).map (·.1)).reverse):=by
 intro p;induction p with
 | zero=>intro _;rfl
 | succ p ih=>
  intro h;have c:p<(ord.zip a).length:=by rw [List.length_zip];omega
  have d:(ord.zip a)[p]=(ord[p]'(by omega),a[p]'(by omega)):=List.getElem_zip ..;rw [O4 c,List.filter_append,afj,List.reverse_append,← ih (by omega)];have e:(X p).2=a[p]'(by omega):=g p _ (cB (by omega));have f:ord.getD p 0=ord[p]'(by omega):=by rw [M9,cB (by omega)];rfl
  simp only [DR,d,e,f];cases he:K9 (a[p]'(by omega))<;>simp [he]
theorem JL {α:Type}(f:α->Bool)(l:List α){p q:Nat}(d:p<q)(hp:p<l.length)(c:f l[p]=true):((l.take p).filter f).length<((l.take q).filter f).length:=by
 have b:l.take (p+1)=(l.take q).take (p+1):=by rw [List.take_take];congr 1;omega
 have a:((l.take (p+1)).filter f).length<=((l.take q).filter f).length:=by rw [b];exact ((List.take_sublist _ _).filter f).length_le
 rw [O4 hp,List.filter_append] at a;simp [c] at a;omega
theorem ZY {n:Nat}{l:List (Nat×Inst)}(E:Gv P slots ops=some (.dreg n l))(a4:∀(i:Nat)(o:Oper)(t:Tmp),ops[i]?=some o->o.dst=some t->t<nt){b:Nat}{S:Nat->DS}(a5:(S 0).ls=[])(a3:(S 0).gs=[(S 0).m])(ad:∀p x,l[p]?=some x->QK cf b x (S p) (S (p+1))):
  ∃ord X,Fixed P slots nt cf b ops ord X S∧l.length=ord.length∧∀p x,l[p]?=some x->X p=x:=by
 unfold Gv at E;split at E;cases E;rename_i d a1;split at E;rename_i W;cases E;generalize hord:canon (Jd ops) (masks ops.toList) ops.size=ord at *;simp only [Zu,rW] at W;obtain⟨⟨⟨⟨c1,c2⟩,c3⟩,c4⟩,c5⟩:=W;obtain⟨V,a0⟩:=XK _ _ _ a1;obtain⟨a8,C⟩:=QL (masks ops.toList) (ord.zip d) [] 0;have I:(ord.zip d).length=ord.length:=by rw [List.length_zip];omega
 generalize hl:numbered (masks ops.toList) (ord.zip d) [] 0=l at *;have M:∀p i x,ord[p]?=some i->d[p]?=some x->(ord.zip d)[p]?=some (i,x):=λp i x g u=>by rw [as4];exact⟨g,u⟩
 have D:∀p i,ord[p]?=some i->∃x o,d[p]?=some x∧ops[i]?=some o∧Qc P slots (jM ops ord p) ops i=some (x,o.dst)∧(l.getD p default).2=x∧l[p]?=some (l.getD p default):=by intro p i f;obtain⟨x,o,g,u,G⟩:=a0 p i f;obtain⟨c,v,_⟩:=C p i x (M p i x f g);refine⟨x,o,g,u,by simpa using G,by rw [M9,v];rfl,by rw [M9,v];rfl⟩
 have a6:∀i∈ord,i<ops.size:=λi R=>Eq.mp O6 (acI.1 c2 i R);have w:∀p i x,ord[p]?=some i->d[p]?=some x->xR (masks ops.toList) ops i x ((ord.zip d).take p).reverse=true:=λp i x g u=>by have:=QJ c5 p (i,x) (M p i x g u);simpa using this
 have K:∀p q j,q<p->p<=ord.length->ord[q]?=some j->∃x,(j,x)∈((ord.zip d).take p).reverse∧d[q]?=some x:=λp q j A f T=>by obtain⟨x,_,g,_⟩:=D q j T;refine⟨x,aCG.2 ?_,g⟩;refine O7 (i:=q) ?_;rw [adP,if_pos A];exact M q j x T g
 have L:∀p i,p<ord.length->ord[p]?=some i->∀y,VE (masks ops.toList) i ((ord.zip d).take p).reverse y=true->QM ops ord (λp=>l.getD p default) p i y:=by
  intro p i f R y F;cases y with
  | con c=>trivial
  | loc k=>
   simp only [VE] at F;split at F;rename_i z N;have hk:k<p:=by have:=(gB.1 N).1;simp at this;omega
   rw [Ow _ _ _ (by omega) hk] at N;obtain⟨g,_⟩:=as4.1 N;exact⟨z.1,hk,g,rF ops i z.1 F⟩;cases F
  | slot j=>intro q A e;obtain⟨x,hm,hx⟩:=K p q (ord[q]'(by omega)) A (by omega) (cB (by omega));obtain⟨x',o',g,_,_,u,_⟩:=D q (ord[q]'(by omega)) (cB (by omega));rw [hx] at g;cases g;have:=acI.1 F _ hm;rw [u] at e;simp [e] at this
 refine⟨ord,λp=>l.getD p default,⟨Ce c1,λi R=>?_,a6,λp i f=>?_,λp f=>?_,λp i f Q q j A T=>?_,λp i o f B e he hb=>?_,λi j oi oj t R T g u=>?_,λi o t B ht q oq A a7 ac=>?_,λp i f y F=>?_,
  λp i y wt f hg=>?_,λp i o f B=>?_,λp q o o' aa A B H=>?_,a4,a3,a5⟩,by rw [a8,I],λp x h=>by simp [M9,h]⟩
 have:=acI.1 c3 i (adY.2 R);simpa using this;obtain⟨x,o,g,u,G,v,_⟩:=D p i f;obtain⟨o',J,Z,O,U,g5⟩:=Aj G;rw [u] at J;cases J;exact⟨o,u,by show (l.getD p default).2.op=_;rw [v];exact O,by show (l.getD p default).2.dst=_;rw [v];exact U,by show qG _ _ _ (l.getD p default).2.guard;rw [v];exact g5⟩;obtain⟨x,o,_,_,_,_,h5⟩:=D p (ord[p]) (cB f);exact ad p _ h5;obtain⟨x,o,g,u,G,v,_⟩:=D p i f;have Q:K9 (l.getD p default).2=true:=Q;rw [v] at Q;have s:=w p i x f g;simp only [xR,rW] at s;have s:=s.1.1.1;unfold K9 at Q;split at Q;rename_i eo a2;rw [a2] at s;obtain⟨x',hm,_⟩:=K p q j A (by have:=(gB.1 f).1;omega) T;exact rF ops i j (acI.1 s _ hm);cases Q;obtain⟨x,o',g,u,G,v,_⟩:=D p i f;have s:=w p i x f g;simp only [xR,rW] at s;have s:=s.1.1.2;rw [B] at s;simp only [rW] at s;have:=acI.1 s.1 e (by simpa using he);rw [hb] at this;simp only [aCu,arP] at this;obtain⟨y,F,ae⟩:=List.any_eq_true.1 this;obtain⟨q,A⟩:=acu (aCG.1 F);rw [adP] at A;split at A;rename_i ab;obtain⟨J,_⟩:=as4.1 A;exact⟨q,ab,by rw [J];simpa using ae⟩;cases A;exact uz (Ce c4) (by simpa using R) (by simpa using T) g u;obtain⟨p,f⟩:=acu (show i∈ord from by have:=acI.1 c3 i (adY.2 (wu.1 B).1);simpa using this);obtain⟨x,o',g,u,G,v,_⟩:=D p i f;have s:=w p i x f g;simp only [xR,rW] at s;have s:=s.1.1.2;rw [B] at s;simp only [rW] at s;have:=acI.1 (acI.1 s.2 t ht) q (adY.2 (wu.1 A).1);rw [A] at this;simp only [ac,bne_self_eq_false,Bool.or_false,aiL,beq_iff_eq] at this;rcases this with (h | h) | h;exact absurd h a7;exact .inl (rF ops i q h);exact .inr (rF ops q i h);obtain⟨x,o',g,u,G,v,_⟩:=D p i f;have s:=w p i x f g;simp only [xR,rW] at s;have F:y∈IJ (l.getD p default).2.op:=F;rw [v] at F;exact L p i (gB.1 f).1 f y (acI.1 s.1.2 y F);obtain⟨x,o',g,u,G,v,_⟩:=D p i f;have s:=w p i x f g;simp only [xR,rW] at s
 have hg:(l.getD p default).2.guard=some (y,wt):=hg;rw [v] at hg;have s:=s.2;rw [hg] at s;exact L p i (gB.1 f).1 f y s;obtain⟨x,o',g,u,G,v,h5⟩:=D p i f;obtain⟨c,J,Z,_⟩:=C p i x (M p i x f g);have B:(l.getD p default).2.op=.r o:=B;rw [v] at B;have s:(l.getD p default).1=c:=by rw [M9,J];rfl
 show (l.getD p default).1=_;rw [s,Z (by simp [isR,B]),acH,adg V (λp x Y=>?_) p (ae1 (gB.1 f).1)];have a9:p<ord.length:=by have:=(gB.1 Y).1;omega
 obtain⟨x',_,O,_,_,U,_⟩:=D p (ord[p]) (cB a9);rw [Y] at O;cases O;exact U;have f:p<ord.length:=by omega
 obtain⟨x,o1,g,u,G,v,h5⟩:=D p (ord[p]) (cB f);obtain⟨y,o2,k1,k2,k3,k4,k5⟩:=D q (ord[q]) (cB A);obtain⟨c,J,_,Z⟩:=C p _ x (M p _ x (cB f) g);obtain⟨c',O,_,U⟩:=C q _ y (M q _ y (cB A) k1);have B:(l.getD p default).2.op=.a o:=B;have H:(l.getD q default).2.op=.a o':=H;rw [v] at B;rw [k4] at H;show (l.getD p default).1<(l.getD q default).1;rw [show (l.getD p default).1=c from by rw [M9,J];rfl,show (l.getD q default).1=c' from by rw [M9,O];rfl,Z (by simp [isR,B]),U (by simp [isR,H])];have af:(ord.zip d)[p]'(by rw [I];exact f)=(ord[p],x):=by have:=M p _ x (cB f) g;rw [cB (by rw [I];exact f)] at this;exact su this
 have:=JL (λy:Nat×Inst=>isA y.2) (ord.zip d) aa (by rw [I];exact f) (by rw [af];simp [isA,B]);omega;cases E
def DW (n:Nat)(listed:Array Bool):Nat:=((List.range n).filter λi=>!listed.getD i false).length
theorem MC {listed:Array Bool}{n i:Nat}(g:listed.size=n)(hi:i<n)(b:listed.getD i false=false):DW n (listed.setIfInBounds i true)+1=DW n listed:=by
 unfold DW;have c:∀l:List Nat,l.Nodup->(l.filter λj=>!(listed.setIfInBounds i true).getD j false).length+(if i∈l then 1 else 0)=(l.filter λj=>!listed.getD j false).length:=by
  intro l;induction l with
  | nil=>intro _;simp
  | cons x l ih=>
   intro h;obtain⟨d,f⟩:=aCh.1 h;have:=ih f;by_cases hx:x=i;subst hx;rw [if_neg d] at this;rw [if_pos (by simp),azK (by rw [nC _ _ _ (by omega),if_pos rfl];simp),azI (by rw [b];rfl),acA];omega;have e:(listed.setIfInBounds i true).getD x false=listed.getD x false:=by rw [nC _ _ _ (by omega),if_neg hx]
   have a:(i∈x::l)↔i∈l:=O9.trans ⟨λh=>h.resolve_left (λe=>hx e.symm),.inr⟩;simp only [a];cases hl:listed.getD x false with
   | true=>rw [azK (by rw [e,hl];simp),azK (by rw [hl];simp)];exact this
   | false=>rw [azI (by rw [e,hl];rfl),azI (by rw [hl];rfl),acA,acA];omega
 have:=c (List.range n) List.nodup_range;rw [if_pos (adY.2 hi)] at this;exact this
theorem aa0 {b:Nat}{ord:List Nat}{X:Nat->Nat×Inst}{S:Nat->DS}{listed:Array Bool}(F:Fixed P slots nt cf b ops ord X S)(a:∀p,p<ord.length->Lp ord listed p=true):∀p,p<=ord.length->DU ord X S listed p=(S p).env:=by
 intro p;induction p with
 | zero=>intro _;rfl
 | succ p ih=>intro d;obtain⟨_,c⟩:=F.ls (p:=p) (by omega);rw [c,← ih (by omega)];show fB (X p).2.dst (vm ord S listed p) _=_;simp [vm,a p (by omega)]
theorem bY.adh {ι:N9}{n:Nm}{env:T d9}{A B:Array Value}(h:bY ι n slots env A)(hs:A.size=B.size)(d:∀t,A.getD t undef=B.getD t undef):bY ι n slots env B:=
 ⟨h.ok,h.small,λt j e=>by
  obtain⟨f,v,a,b,c⟩:=h.val t j e;exact⟨by omega,v,a,b,by rw [← d];exact c⟩⟩
theorem rH (ay:P.follows .mixedOrders=true)(ad:uq P G cf)(slots:List Nat)(nt:Nat)(r:Option Nat):oG P G slots nt cf r:=by
 intro id ops n l b4 b8 Q b1 m ι w a b0 hm b5 a3 hv hQ b3;obtain⟨S,Y,ar⟩:=TH (cf:=cf) (b:=m.nx) l ⟨[],b1,reserve n m,[reserve n m]⟩ b0 hv;have bc:∀p x,l[p]?=some x->QK cf m.nx x (S p) (S (p+1)):=by rcases ar with⟨h,_⟩ | ⟨N,Dd,y,m',h,_⟩;exact λp x g=>.inl (h p x g);intro p x g;rcases h.step p x g with⟨_,h⟩ | ⟨_,_,h,_⟩;exact .inl h;exact .inr h
 obtain⟨c,X,F,b9,aq⟩:=ZY (cf:=cf) (b:=m.nx) (S:=S) b4 b8 (by rw [Y]) (by rw [Y]) bc;have C:∀p,p<c.length->∃x,l[p]?=some x∧X p=x:=λp g=>⟨l[p]'(by omega),cB (by omega),aq p _ (cB (by omega))⟩;refine wpIn_region_any ay ?_;have hb:m.lim<=m.nx:=hm.limn;have R:bY ι (m.nm ι) slots (S 0).env a.tmps:=by rw [Y];exact b5
 have ab:Step P G ι m w ι (reserve n m) {w with drawn:=w.drawn+1}:=(Step.drew hm _).trans (DN n (Step.drew hm (w.drawn+1)).rm);have v:∀i,(Array.replicate ops.size false).getD i false=false:=λi=>by rw [O0,azE];split<;>rfl
 have E:∀p,Lp c (Array.replicate ops.size false) p=false:=λp=>by unfold Lp;split;exact v _;rfl
 rcases ar with⟨hlv,hout⟩ | ⟨N,Dd,y,m',hPan,hout⟩;have ah:∀p,p<c.length->DStep cf m.nx (X p) (S p) (S (p+1)):=λp g=>by obtain⟨x,O,rfl⟩:=C p g;exact hlv p _ O
 have a5:∀(u:Nat) (listed:Array Bool) (V:Act) (w':World) (K:N9) (q:Nat),nP P G m.nx ops c X S ι m w a listed V w' K q->DW ops.size listed=u->
   wpAnyIn (FR r) 0 P .any ops Q u listed V w':=by
  intro u;induction u with
  | zero=>
   intro listed V w' K q D f;have Z:∀i,i<ops.size->listed.getD i false=true:=λi T=>by
    cases hl:listed.getD i false with
    | true=>rfl
    | false=>have:i∈(List.range ops.size).filter λi=>!listed.getD i false:=adM.2 ⟨adY.2 T,by rw [hl];rfl⟩;rw [abm.1 f] at this;cases this
   have hL:∀p,p<c.length->Lp c listed p=true:=λp g=>by rw [pQ (cB g)];exact Z _ (F.lt _ (M8 g))
   refine⟨?_,?_⟩;unfold Region.ready;refine azU.2 λi T=>?_;have T:=adY.1 T;have U:listed.getD i true=true:=by have:=Z i T;rw [O0,acw (by rw [D.len];exact T)] at this ⊢;exact this
   simp [U];have hq:=D.hq;have aa:=F.lay_all (q:=q) (L:=Lp c listed) (c.length-q) (by omega) λk hk=>⟨hL _ (by omega),by
    cases he:K9 (X (q+k)).2 with
    | false=>rfl
    | true=>have:=D.high (q+k) (by omega) he;rw [hL _ (by omega)] at this;cases this⟩
   rw [show q+(c.length-q)=c.length from by omega] at aa;have a8:=D.lay F hb (c.length-q) (by omega);have s:=D.st F hb R a3 (c.length-q) (by omega) c.length (by omega);rw [aa] at a8 s;have a9:=s.env;rw [aa0 F hL c.length (aA _)] at a9;refine hQ ⟨(S c.length).env,(S c.length).m,none,[]⟩ (by rw [hout,← b9];exact nA.2 rfl) rfl rfl K w' V a8 (a9.adh (by rw [rG,D.sz]) λt=>?_) D.defs D.sz;by_cases hw:∃(i:Nat) (o:Oper),ops[i]?=some o∧o.dst=some t;obtain⟨i,o,A,ht⟩:=hw;obtain⟨p,g⟩:=acu (F.all i (wu.1 A).1);have J:=(gB.1 g).1;rw [D.tw p i o t g (Z i (wu.1 A).1) A ht,JK F a3 g A ht c.length J];simp [vm,hL p J];rw [D.tn t λi o _ A ht=>hw ⟨i,o,A,ht⟩,zy c.length λr i o _ _ A ht=>hw ⟨i,o,A,ht⟩]
  | succ u ih=>
   intro listed V w' K q D f;refine⟨λa1=>?_,λi T=>?_⟩
   ·
    exfalso;have af:∃p,p<c.length∧Lp c listed p=false:=by have:((List.range ops.size).filter λi=>!listed.getD i false)≠[]:=λe=>(by unfold DW at f;rw [e] at f;cases f);obtain⟨i,T⟩:=aCC _ this;obtain⟨U,M⟩:=adM.1 T;obtain⟨p,g⟩:=acu (F.all i (adY.1 U));exact⟨p,(gB.1 g).1,by rw [pQ g];simpa using M⟩
    have a0:∀N,(∃p,p<N∧p<c.length∧Lp c listed p=false)->∃p,p<c.length∧Lp c listed p=false∧∀q,q<p->Lp c listed q=true:=by
     intro N;induction N with
     | zero=>rintro⟨p,h,_⟩;omega
     | succ N ihN=>
      rintro⟨p,U,M,h3⟩;by_cases hx:∃p,p<N∧p<c.length∧Lp c listed p=false;exact ihN hx;refine⟨p,M,h3,λq hq=>?_⟩;cases hl:Lp c listed q with
      | true=>rfl
      | false=>exact absurd ⟨q,by omega,by omega,hl⟩ hx
    obtain⟨p0,ai,aj⟩:=af;obtain⟨p,U,M,h3⟩:=a0 (p0+1) ⟨p0,by omega,ai,aj⟩;have g:=cB U;have I:c[p]∈Region.ready .any ops listed:=by obtain⟨o,A,_⟩:=F.inst p _ g;refine mem_ready.2 ⟨?_,o,A,λe he H=>?_⟩;rw [pQ g] at M;have B:c[p]<listed.size:=(by rw [D.len];exact F.lt _ (M8 U));rw [O0,acw B] at M ⊢;exact M;obtain⟨q',ak,al⟩:=F.edges p _ o g A e he H;have:=h3 q' ak;rw [pQ al] at this;exact this
    rw [a1] at I;cases I
   obtain⟨z,o,A,hr⟩:=mem_ready.1 T;have B:i<listed.size:=by rw [D.len];exact (wu.1 A).1
   have z:listed.getD i false=false:=by rw [O0,acw B] at z ⊢;exact z
   refine nP.op ad F hb R a3 D A z hr (λp g=>ah p (gB.1 g).1) λa2 w2 a6 q2 D2=>?_;refine ih _ a2 w2 a6 q2 D2 ?_;have:=MC D.len (by rw [← D.len];exact B) z;omega
 refine a5 _ _ a _ ι 0 ⟨adH _,.inl rfl,λp g=>by omega,λp _ _=>E p,by rw [Y];exact ab,(λd i ac h=>by rw [E] at h;cases h),(λd d' i i' ac an _ h=>by rw [E] at h;cases h),
  (λd h=>by rw [E] at h;cases h),(λp g=>by omega),(λp i o t _ h=>by rw [v] at h;cases h),λt _=>rfl,rfl,rfl,(λi o h=>by rw [v] at h;cases h),by simp⟩ ?_
 unfold DW;rw [aCl.2 (λi _=>by rw [v];rfl),aCA];obtain⟨xN,eoN,aw,ba,b6⟩:=hPan.at_;have ao:N<c.length:=by have:=(gB.1 aw).1;omega
 obtain⟨iN,a4⟩:∃i,c[N]?=some i:=⟨_,cB ao⟩;have b7:iN<ops.size:=F.lt _ (O7 a4);have ap:=aq N xN aw;have bd:(X N).2.op=.e eoN:=by rw [ap];exact ba
 have b2:NM (X N).2.guard (wR eoN) cf (S N).ls (S N).env (S N).m=some [⟨.aY y,m'⟩]:=by rw [ap];exact b6
 have W:∀p i,c[p]?=some i->Dd p=true->p=N∨JH ops i iN:=by
  intro p;induction p using Nat.strongRecOn with
  | _ p ihp=>
   intro i g hd;have J:=(gB.1 g).1;obtain⟨x,O,am⟩:=C p J;rcases hPan.step p x O with⟨h,_⟩ | ⟨hNp,_,_,hw⟩;rw [hd] at h;cases h;rcases hw with h | h | ⟨k,hk,q,hqp,hkq,hq⟩;exact .inl h;by_cases hpN':p=N;exact .inl hpN';obtain⟨eo,he⟩:=h;exact .inr (F.eff p i g (by rw [am];simp [K9,he]) N iN (by omega) a4);have bb:QM ops c X p i (.loc k):=by rcases hk with hk | ⟨wt,hk⟩;exact F.opd p i g _ (by rw [am];exact hk);exact F.opdg p i _ wt g (by rw [am];exact hk)
   obtain⟨j,be,ag,av⟩:=bb;have e:p-1-k=q:=by omega
   rw [e] at ag;rcases ihp q hqp j ag hq with rfl | h;obtain rfl:=su (ag.symm.trans a4);exact .inr av;exact .inr (av.trans h)
 have a5:∀(u:Nat) (listed:Array Bool) (V:Act) (w':World) (K:N9) (q:Nat),nP P G m.nx ops c X S ι m w a listed V w' K q->listed.getD iN false=false->DW ops.size listed=u->
   wpAnyIn (FR r) 0 P .any ops Q u listed V w':=by
  intro u;induction u with
  | zero=>intro listed V w' K q D a7 f;exfalso;have:iN∈(List.range ops.size).filter λi=>!listed.getD i false:=adM.2 ⟨adY.2 b7,by rw [a7];rfl⟩;rw [abm.1 f] at this;cases this
  | succ u ih=>
   intro listed V w' K q D a7 f;refine⟨λa1=>?_,λi T=>?_⟩
   ·
    exfalso;have af:∃p,p<c.length∧Lp c listed p=false:=by have:((List.range ops.size).filter λi=>!listed.getD i false)≠[]:=λe=>(by unfold DW at f;rw [e] at f;cases f);obtain⟨i,T⟩:=aCC _ this;obtain⟨U,M⟩:=adM.1 T;obtain⟨p,g⟩:=acu (F.all i (adY.1 U));exact⟨p,(gB.1 g).1,by rw [pQ g];simpa using M⟩
    have a0:∀N,(∃p,p<N∧p<c.length∧Lp c listed p=false)->∃p,p<c.length∧Lp c listed p=false∧∀q,q<p->Lp c listed q=true:=by
     intro N;induction N with
     | zero=>rintro⟨p,h,_⟩;omega
     | succ N ihN=>
      rintro⟨p,U,M,h3⟩;by_cases hx:∃p,p<N∧p<c.length∧Lp c listed p=false;exact ihN hx;refine⟨p,M,h3,λq hq=>?_⟩;cases hl:Lp c listed q with
      | true=>rfl
      | false=>exact absurd ⟨q,by omega,by omega,hl⟩ hx
    obtain⟨p0,ai,aj⟩:=af;obtain⟨p,U,M,h3⟩:=a0 (p0+1) ⟨p0,by omega,ai,aj⟩;have g:=cB U;have I:c[p]∈Region.ready .any ops listed:=by obtain⟨o,A,_⟩:=F.inst p _ g;refine mem_ready.2 ⟨?_,o,A,λe he H=>?_⟩;rw [pQ g] at M;have B:c[p]<listed.size:=(by rw [D.len];exact F.lt _ (M8 U));rw [O0,acw B] at M ⊢;exact M;obtain⟨q',ak,al⟩:=F.edges p _ o g A e he H;have:=h3 q' ak;rw [pQ al] at this;exact this
    rw [a1] at I;cases I
   obtain⟨z,o,A,hr⟩:=mem_ready.1 T;have B:i<listed.size:=by rw [D.len];exact (wu.1 A).1
   have z:listed.getD i false=false:=by rw [O0,acw B] at z ⊢;exact z
   by_cases hiN':i=iN;subst hiN';refine nP.aY ad F hb R a3 D a4 A z hr bd b2 (λp g J=>?_) λa6 w2 a8 ax ae=>?_;obtain⟨x,O,rfl⟩:=C p J;exact hPan.dst p _ g O;exact b3 _ (by rw [hout];exact nA.2 rfl) y rfl rfl a6 w2 V a8 ax ae D.defs D.sz;have au:∀j,JH ops i j->listed.getD j false=true:=λj hj=>hj.listed D.closed λo' az e he H=>by rw [A] at az;cases az;exact hr e he H
   refine nP.op ad F hb R a3 D A z hr (λp g=>?_) λa2 w2 a6 q2 D2=>?_;have J:=(gB.1 g).1;obtain⟨x,O,rfl⟩:=C p J;rcases hPan.step p _ O with⟨_,h⟩ | ⟨hNp,hDd,_,_⟩;exact h;exfalso;rcases W p i g hDd with rfl | h;exact hiN' (su (g.symm.trans a4));have:=au _ h;rw [a7] at this;cases this;refine ih _ a2 w2 a6 q2 D2 ?_ ?_;rw [nC _ _ _ B,if_neg (ajw hiN')];exact a7;have:=MC D.len (by rw [← D.len];exact B) z;omega
 refine a5 _ _ a _ ι 0 ⟨adH _,.inl rfl,λp g=>by omega,λp _ _=>E p,by rw [Y];exact ab,(λd i ac h=>by rw [E] at h;cases h),(λd d' i i' ac an _ h=>by rw [E] at h;cases h),
  (λd h=>by rw [E] at h;cases h),(λp g=>by omega),(λp i o t _ h=>by rw [v] at h;cases h),λt _=>rfl,rfl,rfl,(λi o h=>by rw [v] at h;cases h),by simp⟩ (v _) ?_
 unfold DW;rw [aCl.2 (λi _=>by rw [v];rfl),aCA]
end
section
variable {P:Program}{G:Mem}{ι:N9}{n:Nm}{m:Mem}{w:World}{slots:List Nat}
def vg (ι:N9):Option d9->FrameMode->Prop
 | some x,u=>u=.panicking [{v:=u7 ι x,recovered:=false}]
 | none,u=>u=.returning∨∃v,u=.panicking [{v,recovered:=true}]
theorem vg.settle {md:Option d9}{u:FrameMode}(h:vg ι md u):Go.settle u=Cc ι md:=by
 cases md with
 | some x=>obtain rfl:u=_:=h;rfl
 | none=>rcases h with rfl | ⟨v,rfl⟩<;>rfl
theorem vg.of {a:Option d9}:vg ι a (Cc ι a):=by
 cases a with
 | some x=>rfl
 | none=>exact .inl rfl
theorem vg.step {ι':N9}{d:Mem}{w':World}{a:Option d9}{u:FrameMode}(h:vg ι a u)(b:FD ι m a)(c:Step P G ι m w ι' d w'):vg ι' a u:=by
 cases a with
 | some x=>have h:u=_:=h;have:=c.u7 (b x rfl);show u=.panicking [{v:=u7 ι' x,recovered:=false}];rw [this];exact h
 | none=>exact h
theorem XO (i:Inst)(l:List Inst)(cf:H7)(ls:List d9)(env:T d9)(m:Mem)(md:Option d9):
  xM (i::l) cf ls env m md=match isRec i with
   | true=>match md with
    | some x=>xM l cf (x::ls) (fB i.dst x env) m none
    | none=>xM l cf (.nilIface::ls) (fB i.dst .nilIface env) m none
   | false=>match i.op with
    | .p o=>ob (HZ i.guard (qJ o) ls env) λv=>xM l cf (v::ls) (fB i.dst v env) m md
    | .r o=>ob (Da i.guard (xJ o) ls env m) λv=>xM l cf (v::ls) (fB i.dst v env) m md
    | _=>none:=rfl
theorem Al {ops:Array Oper}{o:Oper}{i:Nat}{c:List Nat}(j:ops[i]?=some o){b:List (Option Nat)}{ls:List d9}{env:T d9}{a:Act}{cs:List Frame}{Q:Exit->Act->List Frame->World->Prop}
  (s:St P ι n slots b ls env a.tmps) {g:Option (aO×Bool)} (f:qG ops b o.guard g) {v u:d9} (e:u=bi (xu g ls env) v .undef)
  (d:xu g ls env=true->(execOp a.eval o).run P w=.ok (.value (u7 ι v)) w) (h:wpOpsSIn Fence.wide 0 P ops Q c (a.put o.dst (u7 ι u)) cs w):
  wpOpsSIn Fence.wide 0 P ops Q (i::c) a cs w:=by
 simp only [wpOpsSIn,j];refine⟨λ_ _=>trivial,?_⟩;rw [qL s f];cases hb:xu g ls env with
 | true=>rw [hb] at e;obtain rfl:u=v:=e;simp only [if_true];rw [d hb];exact h
 | false=>rw [hb] at e;obtain rfl:u=.undef:=e;rw [oF] at h;simp only [acG,if_false];exact h
theorem adi (g:Option (aO×Bool))(f:PF)(ls:List d9)(env:T d9):HZ g f ls env=bi (xu g ls env) (f ls env) (some .undef):=by cases g<;>rfl
theorem adj (g:Option (aO×Bool))(f:RF)(ls:List d9)(env:T d9)(m:Mem):Da g f ls env m=bi (xu g ls env) (f ls env m) (some .undef):=by cases g<;>rfl
theorem aj7 {a:List (Option Nat)}{c:Op}{d:Zc}(h:.p d=rA P slots a c):jS P slots a c=some (.p d):=by unfold rA at h;split at h;rename_i e b;rw [b,← h];cases h
theorem aj8 {a:List (Option Nat)}{c:Op}{d:SV}(h:.r d=rA P slots a c):jS P slots a c=some (.r d):=by unfold rA at h;split at h;rename_i e b;rw [b,← h];cases h
theorem aa1 {a:List (Option Nat)}{c:Op}(h:.e .recover=rA P slots a c):jS P slots a c=some (.e .recover):=by unfold rA at h;split at h;rename_i d b;rw [b,← h];cases h
theorem aa2 {i:Inst}(h:isRec i=true):i.op=.e .recover∧i.guard=none:=by unfold isRec at h;split at h;exact⟨by assumption,by assumption⟩;cases h
theorem TK {cf:H7}{ops:Array Oper}{U:Nat}(O:∀(i:Nat)(o:Oper)(t:Tmp),ops[i]?=some o->o.dst=some t->t<U){Q:Exit->Act->List Frame->World->Prop}{c₀:Frame}{cs:List Frame}
  (hm:RM P G ι m w.heap):
  ∀(l:List Nat) (done:List (Option Nat)) (insts:List Inst),mZ P slots ops done l=some insts->∀(ls:List d9) (env:T d9) (md:Option d9) (u:FrameMode) (a:Act) (outs:List (EM×Option d9)),
   U<=a.tmps.size->St P ι (m.nm ι) slots done ls env a.tmps->FD ι m md->vg ι md u->xM insts cf ls env m md=some outs->
   (∀r∈outs,∀u' a',r.1.m=m->bY ι (m.nm ι) slots r.1.env a'.tmps->a'.defers=a.defers->a'.tmps.size=a.tmps.size->FD ι m r.2->vg ι r.2 u'->Q .normal a' ({c₀ with mode:=u'}::cs) w)->
   wpOpsSIn Fence.wide 0 P ops Q l a ({c₀ with mode:=u}::cs) w:=by
 intro l;induction l with
 | nil=>
  intro done insts M ls env md u a outs A s n f g N;simp only [mZ,lM] at M;subst M;have g:some [((⟨env,m,none,[]⟩:EM),md)]=some outs:=by rw [← g,xM]
  cases g;exact N _ (nA.2 rfl) u a rfl s.env rfl rfl n f
 | cons i rest ih=>
  intro done insts M ls env md u a outs A s n f g N;obtain⟨x,d,l,hx,hl,rfl⟩:=tu M;obtain⟨o,C,rfl,L,h3,D⟩:=Aj hx;rw [XO] at g;have j:∀(v:d9) (z:Option d9) (u':FrameMode),v.lt (m.nm ι)->FD ι m z->vg ι z u'->xM l cf (v::ls) (fB x.dst v env) m z=some outs->
    wpOpsSIn Fence.wide 0 P ops Q rest (a.put o.dst (u7 ι v)) ({c₀ with mode:=u'}::cs) w:=by
   intro v z u' R H B g;rw [h3] at g;have s':=s.put o.dst (λt ht=>aP (O i o t C ht) A) R;refine ih _ _ hl _ _ z u' (a.put o.dst (u7 ι v)) outs (by rw [kN];exact A) (by rw [(qF a o.dst (u7 ι v)).1];exact s') H B g ?_;intro r I S a' V W X Y Z e6;exact N r I S a' V W (by rw [X,(qF a o.dst _).2]) (Y.trans (kN a o.dst _)) Z e6
  cases I:isRec x with
  | true=>
   rw [I] at g;obtain⟨E,F⟩:=aa2 I;rw [E] at L;rw [F] at D;have q:=aa1 L;have hw:Region.wanted o (yielded ops a.tmps)=true:=by rw [qL s D];rfl
   have K:(execOp a.eval o).run P w=.ok .recover w:=by
    cases ho:o.op with
    | call c=>
     rw [ho] at q;cases Dt q with
     | recover hcal=>simp [execOp,ho,resolve,hcal,invoke,builtin]
    | _=>rw [ho] at q;cases Dt q
   simp only [wpOpsSIn,C];refine⟨λ_ _=>trivial,?_⟩;rw [hw,if_pos rfl,K];cases md with
   | some y=>obtain rfl:u=.panicking [{v:=u7 ι y,recovered:=false}]:=f;exact j y none (.panicking [{v:=u7 ι y,recovered:=true}]) (n y rfl) (λ_ h=>by cases h) (.inr ⟨_,rfl⟩) g
   | none=>
    have J:recoverD ({c₀ with mode:=u}::cs)=none:=by rcases f with rfl | ⟨v,rfl⟩<;>rfl
    show (match recoverD ({c₀ with mode:=u}::cs) with
     | some (v,cs')=>wpOpsSIn Fence.wide 0 P ops Q rest (a.put o.dst v) cs' w
     | none=>wpOpsSIn Fence.wide 0 P ops Q rest (a.put o.dst .nilIface) ({c₀ with mode:=u}::cs) w)
    rw [J];have:=j .nilIface none u trivial n f g;simp only [u7] at this;exact this
  | false=>
   rw [I] at g;obtain⟨op,dst,k⟩:=x;cases op with
   | p po=>
    have g:ob (HZ k (qJ po) ls env) (λv=>xM l cf (v::ls) (fB dst v env) m md)=some outs:=g;obtain⟨v,b,g⟩:=D9 g;rw [adi] at b;have q:=aj7 L;cases hb:xu k ls env with
    | true=>rw [hb] at b;have b:qJ po ls env=some v:=b;obtain⟨E,F⟩:=vT s q b;exact Al C s D (v:=v) (u:=v) (by rw [hb];rfl) (λ_=>F o rfl w) (j v md u E n f g)
    | false=>rw [hb] at b;obtain rfl:d9.undef=v:=su b;exact Al C s D (v:=.undef) (u:=.undef) (by rw [hb];rfl) (λh=>by rw [hb] at h;cases h) (j .undef md u trivial n f g)
   | r ro=>
    have g:ob (Da k (xJ ro) ls env m) (λv=>xM l cf (v::ls) (fB dst v env) m md)=some outs:=g;obtain⟨v,b,g⟩:=D9 g;rw [adj] at b;have q:=aj8 L;cases hb:xu k ls env with
    | true=>rw [hb] at b;have b:xJ ro ls env m=some v:=b;obtain⟨E,F⟩:=vU s hm (zf q) b;exact Al C s D (v:=v) (u:=v) (by rw [hb];rfl) (λ_=>F o rfl) (j v md u E n f g)
    | false=>rw [hb] at b;obtain rfl:d9.undef=v:=su b;exact Al C s D (v:=.undef) (u:=.undef) (by rw [hb];rfl) (λh=>by rw [hb] at h;cases h) (j .undef md u trivial n f g)
   | a _=>cases g
   | e _=>cases g
def aa3 (P:Program)(G:Mem)(slots:List Nat)(nt:Nat)(cf:H7)(fuel:Nat)(c:Code)(ac:bE):Prop:=
 ∀(Q:Exit->Act->List Frame->World->Prop) (env:T d9) (m:Mem) (md:Option d9) (ι:N9) (w:World) (a:Act) (c₀:Frame) (cs:List Frame) (u:FrameMode) (outs:List Tf),
  RM P G ι m w.heap->bY ι (m.nm ι) slots env a.tmps->nt<=a.tmps.size->a.defers=[]->FD ι m md->vg ι md u->Bj ac cf fuel env m md=some outs->
  (∀r∈outs,∀ι' w' a' u',Step P G ι m w ι' r.o.m w'->bY ι' (r.o.m.nm ι') slots r.o.env a'.tmps->a'.tmps.size=a.tmps.size->jV ι' r.o.m r.o.marks a'.defers->XB ι' r.o->FD ι' r.o.m r.md->vg ι' r.md u'->Q (VK ι' r.o) a' ({c₀ with mode:=u'}::cs) w')->
  c.wpSIn Fence.wide 0 P Q a ({c₀ with mode:=u}::cs) w
theorem gY {y:Nat}{cf:H7}(l:uq P G cf)(b:Nat)(d:oG P G slots y cf none){c:Code}{ac:bE}(F:aQ P slots c=some ac)(K:tmpsIn y c=true)
  (p:∀env m md,Bj ac cf b env m md=bnd (xL ac cf b none env m []) λo=>some [⟨o,md⟩]):aa3 P G slots y cf b c ac:=by
 intro Q env m md ι w a A N u C I n r f i j B E;rw [p] at B;obtain⟨L,s,H⟩:=eZ B;refine wpSIn_of_wpIn rfl (wh l b d c ac F K _ none env m [] ι w a L I n r ⟨by rw [f];rfl,λ_ h=>by cases h⟩ ⟨rfl,λ_ h=>by cases h⟩ s ?_);intro o J z M D e g x q t;obtain⟨O,v,k⟩:=H o J;cases v;exact E _ (k _ (nA.2 rfl)) z M D u e g x q t (i.step e).1 (j.step i e)
theorem XP {nt:Nat}{cf:H7}(C:uq P G cf)(j:Nat)(i:oG P G slots nt cf none):∀(c:Code) (ac:bE),aQ P slots c=some ac->tmpsIn nt c=true->aa3 P G slots nt cf j c ac:=by
 intro c;induction c with
 | region id ops d=>
  intro ac f o;cases d with
  | true=>
   refine gY C j i f o ?_;have k:∃n l,ac=.dreg n l:=by simp only [aQ] at f;unfold Gv at f;split at f;cases f;split at f;cases f;exact⟨_,_,rfl⟩;cases f
   obtain⟨n,l,rfl⟩:=k;exact λB m M=>rfl
  | false=>
   have a3:=f;simp only [aQ] at f;split at f;rename_i H hi;cases f;cases hr:Jc H with
   | false=>refine gY C j i a3 o ?_;intro B m M;rw [Bj,hr]
   | true=>intro Q B m M ι w a p U u outs K E F q I A J N;rw [Bj,hr] at J;have J:bnd (xM H cf [] B m M) (λr=>some [⟨⟨.normal,r.1.env,r.1.m,[],none⟩,r.2⟩])=some outs:=J;obtain⟨os,T,hk⟩:=eZ J;refine wpSIn_region (TK (uy o) K _ [] H hi [] B M u a os F (St.start K E) I A T ?_);intro r a4 u' V e1 e2 e3 e4 e5 e6;obtain⟨rs,a5,D⟩:=hk r a4;cases a5;obtain⟨⟨a1,Z,a8,a7⟩,a6⟩:=r;obtain rfl:Z=m:=e1;exact N _ (D _ (nA.2 rfl)) ι w V u' (Step.refl K) e2 e4 ⟨by rw [e3,q];rfl,λ_ h=>by cases h⟩ (fG rfl) e5 e6
   cases f
 | seq x y ihx ihy=>
  intro ac f o Q B m M ι w a p U u outs K E F q I A J N;simp only [tmpsIn,rW] at o;simp only [aQ] at f;split at f;rename_i cx cy hx hy;cases f;rw [Bj] at J;obtain⟨os,T,hk⟩:=eZ J;refine wpSIn_seq (ihx cx hx o.1 _ B m M ι w a p U u os K E F q I A T ?_);rintro⟨⟨x₀,env₀,m₀,k₀,pv₀⟩,md₀⟩ ho ι' w' V u' hst hen' hsz hmk' hpv hmd' hrel';obtain⟨os',v,D⟩:=hk _ ho;cases x₀ with
  | normal=>
   obtain rfl:pv₀=none:=oQ hpv (by intro e;cases e);cases k₀ with
   | cons=>cases v
   | nil=>have v:Bj cy cf j env₀ m₀ md₀=some os':=v;refine ihy cy hy o.2 Q env₀ m₀ md₀ ι' w' V p U u' os' hst.rm hen' (by rw [hsz];exact F) hmk'.1 hmd' hrel' v ?_;intro r hr a0 aa a2 a9 X O Y S W R L;exact N r (D _ hr) a0 aa a2 a9 (hst.trans X) O (Y.trans hsz) S W R L
  | exit id=>obtain rfl:pv₀=none:=oQ hpv (by intro e;cases e);cases v;exact N _ (D _ (nA.2 rfl)) ι' w' V u' hst hen' hsz hmk' hpv hmd' hrel'
  | ret=>cases v;have:=N _ (D _ (nA.2 rfl)) ι' w' V u' hst hen' hsz hmk' hpv hmd' hrel';cases pv₀<;>exact this
  cases f
 | cond c x y ihx ihy=>
  intro ac f o Q B m M ι w a p U u outs K E F q I A J N;simp only [tmpsIn,rW] at o;simp only [aQ] at f;split at f;rename_i z cx cy hz hx hy;cases f;rw [Bj] at J;obtain⟨t,h1,J⟩:=uR J;obtain⟨e1,_⟩:=G5 (St.start K E) hz;refine wpSIn_cond (t:=t) (by rw [e1,h1];rfl) ?_;cases t with
  | true=>exact ihx cx hx o.1 Q B m M ι w a p U u outs K E F q I A J N
  | false=>exact ihy cy hy o.2 Q B m M ι w a p U u outs K E F q I A J N
  cases f
 | skip=>intro ac f o;simp only [aQ,lM] at f;subst f;exact gY C j i rfl o λ_ _ _=>rfl
 | exit id=>intro ac f o;simp only [aQ,lM] at f;subst f;exact gY C j i rfl o λ_ _ _=>rfl
 | ret=>intro ac f o;simp only [aQ,lM] at f;subst f;exact gY C j i rfl o λ_ _ _=>rfl
 | block id x _=>
  intro ac f o;have k:∃y,ac=.block id y:=by simp only [aQ] at f;split at f;cases f;exact⟨_,rfl⟩;cases f
  obtain⟨y,rfl⟩:=k;exact gY C j i f o λ_ _ _=>rfl
 | loop x _=>
  intro ac f o;have k:∃y,ac=.loop y:=by simp only [aQ] at f;split at f;cases f;exact⟨_,rfl⟩;cases f
  obtain⟨y,rfl⟩:=k;exact gY C j i f o λ_ _ _=>rfl
 | rangeFunc g ps x y _ _=>
  intro ac f o;have k:∃a b c d,ac=.rangeFunc a b c d:=by simp only [aQ] at f;split at f;cases f;exact⟨_,_,_,_,rfl⟩;cases f
  obtain⟨_,_,_,_,rfl⟩:=k;exact gY C j i f o λ_ _ _=>rfl
 | scope x ihx=>intro ac f;simp only [aQ] at f;cases f
 | label l=>intro ac f;simp only [aQ] at f;cases f
 | goto l=>intro ac f;simp only [aQ] at f;cases f
 | refuse s=>intro ac f;simp only [aQ] at f;cases f
theorem ME {K:Known}(k:∀f sf,K.fns f=some sf->sI P f sf){cf:H7}(y:uq P G cf)(b:Nat)(g:∀slots nt r,oG P G slots nt cf r):ad7 P G (Gt K cf b):=by
 intro f C s m q h;obtain⟨sf,T,h⟩:=D9 h;obtain⟨A,slots,x,c,ac,rs,L,M,N,O,Q,R,S,F,H,I,e4,J⟩:=k f sf T;refine⟨A,λ{ι w} hm hargs hmd=>?_⟩;obtain⟨D,U,h⟩:=D9 h;obtain rfl:=J D U;obtain⟨u,E,h⟩:=D9 h;obtain⟨Z,B,W⟩:=eZ h;rw [F,H] at E;obtain⟨q1,q2,q3⟩:=Mw R S hargs E;refine callsDIn_of_wpSIn L M trivial λc₀ t Y=>?_;have e:({c₀ with mode:=Cc ι s}:Frame)=c₀:=by rw [← Y]
 rw [← e];refine XP y b (g slots x.ntmps none) c D N Q _ u m s ι w _ c₀ t (Cc ι s) Z hm q2 q3 rfl hmd vg.of B ?_;rintro⟨⟨x₀,env₀,m₀,k₀,pv₀⟩,md₀⟩ ho ι' w' a' u' hst hen' hsz hmk' hpv hmd' hrel';obtain⟨vs,a,o⟩:=W _ ho;have i:k₀=[]∧pv₀=none∧(∀id,x₀≠.exit id)∧∃l,results sf.results env₀ m₀=some l∧vs=[(m₀,md₀)]:=by
  have a:Tg sf.results ⟨⟨x₀,env₀,m₀,k₀,pv₀⟩,md₀⟩=some vs:=a;have p:ob (results sf.results env₀ m₀) (λ_=>some [(m₀,md₀)])=some vs->∃l,results sf.results env₀ m₀=some l∧vs=[(m₀,md₀)]:=by intro h;obtain⟨l,X,h⟩:=D9 h;cases h;exact⟨l,X,rfl⟩
  cases x₀ with
  | exit id=>cases k₀<;>cases pv₀<;>cases a
  | normal=>
   cases k₀ with
   | cons=>cases pv₀<;>cases a
   | nil=>
    cases pv₀ with
    | some=>cases a
    | none=>exact⟨rfl,rfl,(λid h=>by cases h),p a⟩
  | ret=>
   cases k₀ with
   | cons=>cases pv₀<;>cases a
   | nil=>
    cases pv₀ with
    | some=>cases a
    | none=>exact⟨rfl,rfl,(λid h=>by cases h),p a⟩
 obtain⟨rfl,rfl,z,l,d,rfl⟩:=i;rw [I] at d;obtain⟨r1,r2⟩:=Bw hst.rm hen' _ rs O l d;have V:a'.defers=[]:=hmk'.1;have n:(Go.results x a'.tmps).run P w'=.ok (u7 ι' (result l)) w':=by rw [Mt,JG,aCD];simp only [D5,map_eq_pure_bind,bind_assoc,pure_bind];rw [r2];simp
 have j:a'.defers=[]∧∃u'',(({c₀ with mode:=u'}:Frame)::t)=({({c₀ with mode:=Cc ι s}:Frame) with mode:=u''}:Frame)::t∧∃v,(Go.results x a'.tmps).run P w'=.ok v w'∧
   ∃v',Ending.returned v=.returned v'∧∃r∈q,∃ι',Step P G ι m w ι' r.1 w'∧FD ι' r.1 r.2∧settle u''=Cc ι' r.2:=
  ⟨V,u',rfl,_,n,_,rfl,(m₀,md₀),o _ (nA.2 rfl),ι',hst,hmd',hrel'.settle⟩
 cases x₀ with
 | normal=>exact j
 | ret=>exact j
 | exit id=>exact absurd rfl (z id)
end
section
variable {P:Program}{ι ι':N9}{n n':Nm}{r:Nat->Option Nat}
def GL (ι:N9)(n:Nm)(ι':N9)(n':Nm)(r:Nat->Option Nat):Prop:=∀i j,r i=some j->n i->n' j∧ι' j=ι i∧n'.cap j=n.cap i
mutual
theorem rJ (hr:GL ι n ι' n' r):∀(v v':d9),iJ r v=some v'->v.lt n->u7 ι' v'=u7 ι v∧v'.lt n'
 | .undef,v',h,_ | .bool _,v',h,_ | .int _ _,v',h,_ | .str _,v',h,_ | .nilPtr,v',h,_ | .nilSlice,v',h,_ | .nilMap,v',h,_ | .nilFunc,v',h,_ | .nilIface,v',h,_=>by simp only [iJ,lM] at h;subst h;simp [u7,d9.lt]
 | .ptr i o,v',h,hv=>by simp only [iJ] at h;obtain⟨j,h1,h2⟩:=D9 h;cases h2;obtain⟨g1,g2,g3⟩:=hr i j h1 hv;exact⟨by simp [u7,N9.at,g2],g1⟩
 | .slice i o l c,v',h,hv=>by simp only [iJ] at h;obtain⟨j,h1,h2⟩:=D9 h;cases h2;obtain⟨g1,g2,g3⟩:=hr i j h1 hv;exact⟨by simp [u7,N9.at,g2],g1⟩
 | .sliceU i o l c,v',h,hv=>by simp only [iJ] at h;obtain⟨j,h1,h2⟩:=D9 h;cases h2;obtain⟨g1,g2,g3⟩:=hr i j h1 hv.1;exact⟨by simp [u7,N9.at,g2],g1,hv.2.1,by rw [g3];exact hv.2.2⟩
 | .map i,v',h,hv=>by simp only [iJ] at h;obtain⟨j,h1,h2⟩:=D9 h;cases h2;obtain⟨g1,g2,g3⟩:=hr i j h1 hv;exact⟨by simp [u7,g2],g1⟩
 | .func fn a b,v',h,hv=>by
  obtain⟨h1,h2,h3⟩:=hv;have key:∀v',(ob (pJ r a) λx=>ob (pJ r b) λy=>some (d9.func fn x y))=some v'->(∀l,fn≠.yield l)->u7 ι' v'=u7 ι (.func fn a b)∧v'.lt n':=by
   intro v' h hn;obtain⟨x,h4,h⟩:=D9 h;obtain⟨y,h5,h⟩:=D9 h;cases h;obtain⟨g1,g2⟩:=lX hr a x h4 h2;obtain⟨g3,g4⟩:=lX hr b y h5 h3;have e:lT ι' fn=lT ι fn:=by cases fn<;>first | rfl | exact absurd rfl (hn _)
   refine⟨by simp [u7,g1,g3,e],?_,g2,g4⟩;cases fn<;>first | trivial | exact absurd rfl (hn _)
  cases fn with
  | yield l=>simp only [iJ] at h;cases h
  | func f=>exact key v' (by simpa only [iJ] using h) (by simp)
  | method f=>exact key v' (by simpa only [iJ] using h) (by simp)
  | methodOf f g=>exact key v' (by simpa only [iJ] using h) (by simp)
  | via f g x y=>exact key v' (by simpa only [iJ] using h) (by simp)
 | .iface t v,v',h,hv=>by simp only [iJ] at h;obtain⟨x,h1,h2⟩:=D9 h;cases h2;obtain⟨g1,g2⟩:=rJ hr v x h1 hv;exact⟨by simp [u7,g1],g2⟩
 | .agg l,v',h,hv=>by simp only [iJ] at h;obtain⟨x,h1,h2⟩:=D9 h;cases h2;obtain⟨g1,g2⟩:=lX hr l x h1 hv;exact⟨by simp [u7,g1],g2⟩
 | .tuple l,v',h,hv=>by simp only [iJ] at h;obtain⟨x,h1,h2⟩:=D9 h;cases h2;obtain⟨g1,g2⟩:=lX hr l x h1 hv;exact⟨by simp [u7,g1],g2⟩
 | .aY v,v',h,hv=>by simp only [d9.lt] at hv
theorem lX (hr:GL ι n ι' n' r):∀(l l':List d9),pJ r l=some l'->eU n l->C8 ι' l'=C8 ι l∧eU n' l'
 | [],l',h,_=>by simp only [pJ,lM] at h;subst h;simp [C8,eU]
 | v::l,l',h,hv=>by simp only [pJ] at h;obtain⟨x,h1,h⟩:=D9 h;obtain⟨y,h2,h⟩:=D9 h;cases h;obtain⟨g1,g2⟩:=rJ hr v x h1 hv.1;obtain⟨g3,g4⟩:=lX hr l y h2 hv.2;exact⟨by simp [C8,g1,g3],g2,g4⟩
end
theorem GN (hr:GL ι n ι' n' r):∀(l l':List (List d9)),nT r l=some l'->(∀x∈l,eU n x)->l'.length=l.length∧∀(i:Nat) x,l[i]?=some x->∃x',l'[i]?=some x'∧C8 ι' x'=C8 ι x∧eU n' x'
 | [],l',h,_=>by simp only [nT,lM] at h;subst h;simp
 | v::l,l',h,hv=>by
  simp only [nT] at h;obtain⟨x,h1,h⟩:=D9 h;obtain⟨y,h2,h⟩:=D9 h;cases h;obtain⟨g1,g2⟩:=lX hr v x h1 (hv v (by simp));obtain⟨g3,g4⟩:=GN hr l y h2 (λx hx=>hv x (by simp [hx]));refine⟨by simp [g3],λi u hu=>?_⟩;cases i with
  | zero=>simp at hu;subst hu;exact⟨x,rfl,g1,g2⟩
  | succ i=>obtain⟨x',h3,h4⟩:=g4 i u (by simpa using hu);exact⟨x',by simpa using h3,h4⟩
theorem JM (hr:GL ι n ι' n' r):∀(l l':List (d9×d9)),Ia r l=some l'->(∀e∈l,e.1.lt n∧e.2.lt n)->l'.length=l.length∧(∀k,K8 ι' l' k=K8 ι l k)∧∀e∈l',e.1.lt n'∧e.2.lt n'
 | [],l',h,_=>by simp only [Ia,lM] at h;subst h;simp [K8]
 | e::l,l',h,hv=>by simp only [Ia] at h;obtain⟨x,h1,h⟩:=D9 h;obtain⟨y,h2,h⟩:=D9 h;obtain⟨z,h3,h⟩:=D9 h;cases h;obtain⟨g1,g2⟩:=rJ hr e.1 x h1 (hv e (by simp)).1;obtain⟨g3,g4⟩:=rJ hr e.2 y h2 (hv e (by simp)).2;obtain⟨g5,g6,g7⟩:=JM hr l z h3 (λx hx=>hv x (by simp [hx]));refine⟨by simp [g5],λk=>by simp [K8,g1,g3,g6],λu hu=>?_⟩;rcases O9.1 hu with rfl | hu;exact⟨g2,g4⟩;exact g7 u hu
theorem XQ {b:Z6}{nb:NB}(h:AU b=some nb):jT b=false:=by cases b<;>first | rfl | (simp [AU] at h)
theorem Ci (nb:NB):jT (eO nb)=false:=by cases nb<;>rfl
theorem JN {r:Nat->Option Nat}{b:Z6}{nb a:NB}(h:AU b=some nb)(h':sG r nb=some a):bG (eO a)=bG b:=by
 cases b<;>simp only [AU,lM,reduceCtorEq] at h
 subst h;simp only [sG,lM] at h';subst h';rfl;obtain⟨l,_,h⟩:=D9 h;cases h;simp only [sG] at h';obtain⟨x,_,h'⟩:=D9 h';cases h';rfl;subst h;simp only [sG] at h';obtain⟨x,_,h'⟩:=D9 h';cases h';rfl;subst h;simp only [sG] at h';obtain⟨x,_,h'⟩:=D9 h';cases h';rfl
theorem Ox (D:GL ι n ι' n' r){h:Array Obj}{l:Loc}{b:Z6}{nb y:NB}(hb:gW P ι n h l b)(o:AU b=some nb)(a:sG r nb=some y):gW P ι' n' h l (eO y):=by
 cases b<;>simp only [AU,lM,reduceCtorEq] at o
 subst o;simp only [sG,lM] at a;subst a;exact trivial;rename_i rs k A;obtain⟨z,S,o⟩:=D9 o;cases o;simp only [sG] at a;obtain⟨s,v,a⟩:=D9 a;cases a;obtain⟨c,e,O,t,u,⟨L,N,X,Y⟩,H⟩:=hb;obtain⟨J,W⟩:=T.Ti _ _ _ _ S;have f:∀i x,z[i]?=some x->i<k∧A.get i=some x:=λi x p=>by
  have m:i<k:=by have:=(gB.1 p).1;omega
  have:=W i m;rw [W9,p] at this;exact⟨m,this⟩
 have C:∀x∈z,eU n x:=λx p=>by obtain⟨i,m⟩:=acu p;obtain⟨d,g⟩:=f i x m;obtain⟨G,B,E,F,q4⟩:=H i d;rw [g] at B;cases B;exact F
 obtain⟨d,g⟩:=GN D z s v C;refine⟨c,e,O,t,u,⟨by rw [K7,d,J];exact L,s.length,(by rw [K7];exact aA _),T.kK s⟩,λi m=>?_⟩;rw [K7,d,J] at m;have p:z[i]?=some (z[i]'(by omega)):=cB (by omega);obtain⟨K,B,E,F⟩:=g i _ p;obtain⟨_,R⟩:=f i _ p;obtain⟨G,I,Z,p3,V⟩:=H i m;rw [R] at I;cases I;have w:K.length=rs:=by have:=congrArg List.length E;simp only [dz] at this;omega
 refine⟨K,by rw [T.bN];exact B,w,F,λj U=>?_⟩;rw [V j U,← dZ,← dZ,E];subst o;simp only [sG] at a;obtain⟨M,v,a⟩:=D9 a;cases a;obtain⟨t,u⟩:=hb;obtain⟨d,g,Q⟩:=JM D _ _ v u;exact⟨by rw [g,d];exact t,Q⟩;subst o;simp only [sG] at a;obtain⟨q,v,a⟩:=D9 a;cases a;obtain⟨t,u⟩:=hb;obtain⟨d,g,_⟩:=D _ _ v t;exact⟨d,by rw [g];exact u⟩
mutual
theorem vk {r1 r2:Nat->Option Nat}:∀(v u t:d9),iJ r1 v=some u->iJ r2 u=some t->iJ (λi=>ob (r1 i) r2) v=some t
 | .undef,u,t,h,h' | .bool _,u,t,h,h' | .int _ _,u,t,h,h' | .str _,u,t,h,h' | .nilPtr,u,t,h,h' | .nilSlice,u,t,h,h' | .nilMap,u,t,h,h' | .nilFunc,u,t,h,h' | .nilIface,u,t,h,h'=>by simp only [iJ,lM] at h;subst h;simpa only [iJ] using h'
 | .ptr i o,u,t,h,h' | .slice i o _ _,u,t,h,h' | .sliceU i o _ _,u,t,h,h' | .map i,u,t,h,h'=>by simp only [iJ] at h;obtain⟨j,h1,h2⟩:=D9 h;cases h2;simp only [iJ] at h' ⊢;obtain⟨k,h3,h4⟩:=D9 h';rw [h1,I9,h3];exact h4
 | .func fn a b,u,t,h,h'=>by
  cases fn with
  | yield l=>simp only [iJ] at h;cases h
  | _=>simp only [iJ] at h;obtain⟨x,h1,h⟩:=D9 h;obtain⟨y,h2,h⟩:=D9 h;cases h;simp only [iJ] at h' ⊢;obtain⟨x',h3,h'⟩:=D9 h';obtain⟨y',h4,h'⟩:=D9 h';rw [vo a x x' h1 h3,I9,vo b y y' h2 h4];exact h'
 | .iface ty v,u,t,h,h'=>by simp only [iJ] at h;obtain⟨x,h1,h⟩:=D9 h;cases h;simp only [iJ] at h' ⊢;obtain⟨x',h3,h'⟩:=D9 h';rw [vk v x x' h1 h3];exact h'
 | .aY v,u,t,h,h'=>by simp only [iJ] at h;cases h
 | .agg l,u,t,h,h' | .tuple l,u,t,h,h'=>by simp only [iJ] at h;obtain⟨x,h1,h⟩:=D9 h;cases h;simp only [iJ] at h' ⊢;obtain⟨x',h3,h'⟩:=D9 h';rw [vo l x x' h1 h3];exact h'
theorem vo {r1 r2:Nat->Option Nat}:∀(v u t:List d9),pJ r1 v=some u->pJ r2 u=some t->pJ (λi=>ob (r1 i) r2) v=some t
 | [],u,t,h,h'=>by simp only [pJ,lM] at h;subst h;simpa only [pJ] using h'
 | v::l,u,t,h,h'=>by simp only [pJ] at h;obtain⟨x,h1,h⟩:=D9 h;obtain⟨y,h2,h⟩:=D9 h;cases h;simp only [pJ] at h' ⊢;obtain⟨x',h3,h'⟩:=D9 h';obtain⟨y',h4,h'⟩:=D9 h';rw [vk v x x' h1 h3,I9,vo l y y' h2 h4];exact h'
end
theorem JO {r1 r2:Nat->Option Nat}:∀(v u t:List (List d9)),nT r1 v=some u->nT r2 u=some t->nT (λi=>ob (r1 i) r2) v=some t
 | [],u,t,h,h'=>by simp only [nT,lM] at h;subst h;simpa only [nT] using h'
 | v::l,u,t,h,h'=>by simp only [nT] at h;obtain⟨x,h1,h⟩:=D9 h;obtain⟨y,h2,h⟩:=D9 h;cases h;simp only [nT] at h' ⊢;obtain⟨x',h3,h'⟩:=D9 h';obtain⟨y',h4,h'⟩:=D9 h';rw [vo v x x' h1 h3,I9,JO l y y' h2 h4];exact h'
theorem MF {r1 r2:Nat->Option Nat}:∀(v u t:List (d9×d9)),Ia r1 v=some u->Ia r2 u=some t->Ia (λi=>ob (r1 i) r2) v=some t
 | [],u,t,h,h'=>by simp only [Ia,lM] at h;subst h;simpa only [Ia] using h'
 | e::l,u,t,h,h'=>by simp only [Ia] at h;obtain⟨x,h1,h⟩:=D9 h;obtain⟨y,h2,h⟩:=D9 h;obtain⟨z,h3,h⟩:=D9 h;cases h;simp only [Ia] at h' ⊢;obtain⟨x',h4,h'⟩:=D9 h';obtain⟨y',h5,h'⟩:=D9 h';obtain⟨z',h6,h'⟩:=D9 h';rw [vk e.1 x x' h1 h4,I9,vk e.2 y y' h2 h5,I9,MF l z z' h3 h6];exact h'
theorem XR {d e:Nat->Option Nat}{v u t:NB}(h:sG d v=some u)(h':sG e u=some t):sG (λi=>ob (d i) e) v=some t:=by
 cases v<;>simp only [sG] at h
 obtain⟨x,a,h⟩:=D9 h;cases h;simp only [sG] at h' ⊢;obtain⟨c,b,h'⟩:=D9 h';rw [JO _ x c a b];exact h';obtain⟨x,a,h⟩:=D9 h;cases h;simp only [sG] at h' ⊢;obtain⟨c,b,h'⟩:=D9 h';rw [MF _ x c a b];exact h';obtain⟨x,a,h⟩:=D9 h;cases h;simp only [sG] at h' ⊢;obtain⟨c,b,h'⟩:=D9 h';rw [a,I9,b];exact h';cases h;exact h'
theorem Am {r:Nat->Option Nat}:∀(l l':List NB),wS r l=some l'->l'.length=l.length∧∀(i:Nat) x,l'[i]?=some x->∃y,l[i]?=some y∧sG r y=some x
 | [],l',h=>by simp only [wS,lM] at h;subst h;simp
 | v::l,l',h=>by
  simp only [wS] at h;obtain⟨x,h1,h⟩:=D9 h;obtain⟨y,h2,h⟩:=D9 h;cases h;obtain⟨g1,g2⟩:=Am l y h2;refine⟨by simp [g1],λi u hu=>?_⟩;cases i with
  | zero=>simp at hu;subst hu;exact⟨v,rfl,h1⟩
  | succ i=>obtain⟨z,h3,h4⟩:=g2 i u (by simpa using hu);exact⟨z,by simpa using h3,h4⟩
mutual
theorem Im (lo:Nat):∀(v:d9),∀i∈Li lo v,lo<=i
 | .ptr i _,j,h | .slice i _ _ _,j,h | .sliceU i _ _ _,j,h | .map i,j,h=>by
  simp only [Li] at h;cases hb:Nat.ble lo i with
  | true=>rw [hb] at h;obtain rfl:=nA.1 h;exact LA hb
  | false=>rw [hb] at h;cases h
 | .func fn a b,j,h=>by simp only [Li] at h;rcases O5.1 h with h | h;exact Ao lo a j h;exact Ao lo b j h
 | .iface _ v,j,h=>by simp only [Li] at h;exact Im lo v j h
 | .agg l,j,h | .tuple l,j,h=>by simp only [Li] at h;exact Ao lo l j h
 | .undef,j,h | .bool _,j,h | .int _ _,j,h | .str _,j,h | .nilPtr,j,h | .nilSlice,j,h | .nilMap,j,h | .nilFunc,j,h | .nilIface,j,h | .aY _,j,h=>by simp only [Li] at h;cases h
theorem Ao (lo:Nat):∀(l:List d9),∀i∈sD lo l,lo<=i
 | [],j,h=>by simp only [sD] at h;cases h
 | v::l,j,h=>by simp only [sD] at h;rcases O5.1 h with h | h;exact Im lo v j h;exact Ao lo l j h
end
theorem QU (lo:Nat):∀(l:List (List d9)),∀i∈PY lo l,lo<=i
 | [],j,h=>by simp only [PY] at h;cases h
 | v::l,j,h=>by simp only [PY] at h;rcases O5.1 h with h | h;exact Ao lo v j h;exact QU lo l j h
theorem VN (lo:Nat):∀(l:List (d9×d9)),∀i∈Zq lo l,lo<=i
 | [],j,h=>by simp only [Zq] at h;cases h
 | e::l,j,h=>by simp only [Zq] at h;rcases O5.1 h with h | h;exact Im lo _ j h;rcases O5.1 h with h | h;exact Im lo _ j h;exact VN lo l j h
theorem adk (lo:Nat)(b:NB):∀i∈PZ lo b,lo<=i:=by
 intro i h;cases b with
 | cells rs rows=>exact QU lo rows i h
 | map es=>exact VN lo es i h
 | tail p=>
  simp only [PZ] at h;cases hb:Nat.ble lo p with
  | true=>rw [hb] at h;obtain rfl:=nA.1 h;exact LA hb
  | false=>rw [hb] at h;cases h
 | dead=>cases h
def Good (m:Mem)(lo:Nat)(l:List (Nat×NB)):Prop:=(∀p∈l,lo<=p.1∧∃b,m.get p.1=some b∧AU b=some p.2)∧(l.map (·.1)).Nodup
theorem JQ (n:Nat):∀l:List (Nat×NB),LQ n l=true∨n∉l.map (·.1)
 | []=>.inr (by simp)
 | x::l=>by
  show bi (Nat.beq x.1 n) true (LQ n l)=true∨_;cases hb:Nat.beq x.1 n with
  | true=>exact .inl rfl
  | false=>rcases JQ n l with h | h;exact .inl h;refine .inr λhm=>?_;rcases O9.1 (by simpa using hm:n∈x.1::l.map (·.1)) with h1 | h1;rw [h1,acK] at hb;cases hb;exact h h1
theorem TL {m:Mem}{lo:Nat}:∀(k:Nat) (work:List Nat) (seen out:List (Nat×NB)),(∀i∈work,lo<=i)->Good m lo seen->reach m lo k work seen=some out->Good m lo out:=by
 intro k;induction k with
 | zero=>intro work seen out _ _ h;cases h
 | succ k ih=>
  intro work seen out f c h;cases work with
  | nil=>have h:some seen.reverse=some out:=h;cases h;exact⟨λp d=>c.1 p (aCG.1 d),by rw [List.map_reverse];exact List.pairwise_reverse.2 (c.2.imp λh e=>h e.symm)⟩
  | cons i work=>
   have h:bi (LQ i seen) (reach m lo k work seen) (ob (m.get i) λb=>ob (AU b) λg=>reach m lo k (PZ lo g++work) ((i,g)::seen))=some out:=h;rcases JQ i seen with h1 | h1;rw [h1] at h;exact ih work seen out (λj a=>f j (by simp [a])) c h;cases hb:LQ i seen with
   | true=>rw [hb] at h;exact ih work seen out (λj a=>f j (by simp [a])) c h
   | false=>rw [hb] at h;obtain⟨b,l,h⟩:=D9 h;obtain⟨g,n,h⟩:=D9 h;refine ih _ _ out (λj a=>?_) ⟨λp d=>?_,?_⟩ h;rcases O5.1 a with a | a;exact adk lo g j a;exact f j (by simp [a]);rcases O9.1 d with rfl | d;exact⟨f i (by simp),b,l,n⟩;exact c.1 p d;rw [adT];exact aCh.2 ⟨h1,c.2⟩
theorem DX (i:Nat):∀(l:List Nat) (k j:Nat),placeOf i l k=some j->k<=j∧l[j-k]?=some i
 | [],k,j,h=>by cases h
 | x::l,k,j,h=>by
  have h:bi (Nat.beq x i) (some k) (placeOf i l (k+1))=some j:=h;cases hb:Nat.beq x i with
  | true=>rw [hb] at h;cases h;rw [l7 hb];simp
  | false=>rw [hb] at h;obtain⟨h1,h2⟩:=DX i l (k+1) j h;exact⟨by omega,by rw [show j-k=(j-(k+1))+1 from by omega];simpa using h2⟩
theorem MG {lo i j:Nat}{a:List Nat}(h:uh lo a i=some j):(i<lo∧j=i)∨(lo<=i∧lo<=j∧a[j-lo]?=some i):=by
 unfold uh at h;cases hb:Nat.ble lo i with
 | true=>rw [hb] at h;obtain⟨b,c⟩:=DX i a lo j h;exact .inr ⟨LA hb,b,c⟩
 | false=>rw [hb] at h;have h:some i=some j:=h;cases h;exact .inl ⟨Nat.lt_of_not_le (Mh hb),rfl⟩
theorem wm {m:Mem}{lo:Nat}{vs:List d9}{c:CO}(h:kJ lo vs m=some c):∃seen,Good m lo seen∧c.ids=seen.map (·.1)∧pJ (uh lo c.ids) vs=some c.vs∧wS (uh lo c.ids) (seen.map (·.2))=some c.bs:=by obtain⟨seen,a,h⟩:=D9 h;obtain⟨e,b,h⟩:=D9 h;obtain⟨bs,d,h⟩:=D9 h;cases h;exact⟨seen,TL _ _ _ _ (Ao lo vs) ⟨(λp (hp:p∈([]:List (Nat×NB)))=>by cases hp),(by simp:(([]:List (Nat×NB)).map (·.1)).Nodup)⟩ a,rfl,b,d⟩
theorem QV (b:NB)(a:List NB)(m:Mem):layAll (b::a) m=layAll a (m.new (eO b)):=rfl
theorem tC:∀(bs:List NB) (m:Mem),T.Ok m.t m.nx->T.Ok (layAll bs m).t (layAll bs m).nx∧(layAll bs m).nx=m.nx+bs.length∧(layAll bs m).lim=m.lim∧
  ∀i,(layAll bs m).get i=if i<m.nx then m.get i else (bs[i-m.nx]?).map eO
 | [],m,h=>by
  refine⟨h,rfl,rfl,λi=>?_⟩;show m.get i=_;split;rfl;rename_i hi;cases hg:m.get i with
  | none=>simp
  | some x=>exact absurd (Mem.Q6 h hg) hi
 | b::bs,m,h=>by obtain⟨h1,h2,h3,h4⟩:=tC bs (m.new (eO b)) (h.push _);rw [QV];refine⟨h1,by rw [h2];simp;omega,h3,λi=>?_⟩;rw [h4,Mem.Qi,Mem.P5 h];by_cases hi:i<m.nx;rw [if_pos (by omega),if_neg (by omega),if_pos hi];by_cases he:i=m.nx;subst he;rw [if_pos (by omega),if_pos rfl,if_neg (by omega)];simp;rw [if_neg (by omega),if_neg hi,show i-m.nx=(i-(m.nx+1))+1 from by omega];simp
end
section
variable {P:Program}{G:Mem}{ι:N9}{m:Mem}{w:World}
structure Oy (G:Mem)(Ng:List NB):Prop where
 ok:T.Ok G.t G.nx
 len:Ng.length=G.nx
 get:∀i,i<G.nx->G.get i=(Ng[i]?).map eO
 shut:∀nb∈Ng,sG (λi=>bi (Nat.blt i G.nx) (some i) none) nb=some nb
noncomputable abbrev P7 (G:Mem)(bs:List NB):Mem:=(layAll bs G).shut
def lF (P:Program)(G:Mem)(f:FuncId)(args:List d9)(bs:List NB)(a:EK):Prop:=
 ∀(ι:N9) (w:World),RM P G ι (P7 G bs) w.heap->eU ((P7 G bs).nm ι) args->
  CallsIn Fence.wide 0 P f (C8 ι args).toArray w λe w'=>∃ι' r,Step P G ι (P7 G bs) w ι' r.m w'∧r.v.lt (r.m.nm ι')∧e=.returned (u7 ι' r.v)∧Bh (layAll bs G).nx r=some a
theorem GQ:∀a b:List (List d9),Fj a b=true->a=b
 | [],[],_=>rfl
 | [],_ :: _,h=>by simp only [Fj] at h;cases h
 | _ :: _,[],h=>by simp only [Fj] at h;cases h
 | x::a,y::b,h=>by simp only [Fj] at h;obtain⟨h1,h2⟩:=jN h;rw [oH (lV 100) _ _ h1,GQ a b h2]
theorem JR:∀a b:List (d9×d9),LU a b=true->a=b
 | [],[],_=>rfl
 | [],_ :: _,h=>by simp only [LU] at h;cases h
 | _ :: _,[],h=>by simp only [LU] at h;cases h
 | x::a,y::b,h=>by simp only [LU] at h;obtain⟨h1,h2⟩:=jN h;obtain⟨h2,h3⟩:=jN h2;have e1:=lV 100 _ _ h1;have e2:=lV 100 _ _ h2;obtain⟨x1,x2⟩:=x;obtain⟨y1,y2⟩:=y;have e1:x1=y1:=e1;have e2:x2=y2:=e2;rw [e1,e2,JR a b h3]
theorem TM:∀a b:NB,bO a b=true->a=b:=by
 intro a b h;cases a<;>cases b<;>simp only [bO] at h<;>first | (cases h;done) | skip
 obtain⟨c,d⟩:=jN h;rw [l7 c,GQ _ _ d];rw [JR _ _ h];rw [l7 h];rfl
theorem tF:∀a b:List NB,ou a b=true->a=b
 | [],[],_=>rfl
 | [],_ :: _,h=>by simp only [ou] at h;cases h
 | _ :: _,[],h=>by simp only [ou] at h;cases h
 | x::a,y::b,h=>by simp only [ou] at h;obtain⟨h1,h2⟩:=jN h;rw [TM _ _ h1,tF a b h2]
theorem zA {lo:Nat}:∀(l:List VM) (a:EK),NN lo l=some a->∀r∈l,Bh lo r=some a
 | [],a,h,r,hr=>by cases hr
 | [x],a,h,r,hr=>by obtain rfl:=nA.1 hr;obtain⟨b,h1,h2⟩:=D9 h;have h2:some b=some a:=h2;cases h2;exact h1
 | x::y::l,a,h,r,hr=>by obtain⟨b,h1,h2⟩:=D9 h;have h2:(ob (NN lo (y::l)) λc=>bi (bS 100 b.v c.v) (bi (ou b.bs c.bs) (some b) none) none)=some a:=h2;obtain⟨c,h3,h2⟩:=D9 h2;obtain⟨h4,h2⟩:=J9 h2;obtain⟨h5,h2⟩:=J9 h2;have h2:some b=some a:=h2;cases h2;rcases O9.1 hr with rfl | hr;exact h1;have:=zA (y::l) c h3 r hr;rw [this];have e1:=lV 100 _ _ h4;have e2:=tF _ _ h5;obtain⟨av,ab⟩:=a;obtain⟨cv,cb⟩:=c;have e1:av=cv:=e1;have e2:ab=cb:=e2;rw [e1,e2]
theorem TN {cf:H7}(i:uq P G cf){g:mY}(o:ad7 P G g)(j:P.follows .mixedOrders=true)(b:Nat){f:FuncId}{sf:L6}(z:sI P f sf){args:List d9}{k:List NB}{a:EK}
  (h:(ob (dI cf g b sf args (P7 G k)) λl=>NN (layAll k G).nx l)=some a):lF P G f args k a:=by
 intro ι w A c;obtain⟨l,t,p⟩:=D9 h;refine (QI i o b (λd B r=>rH j i d B r) z t A c).mono ?_;rintro e w' (⟨v,rfl,r,hr,ι',g1,g2,rfl⟩ | ⟨r,hr,x,ι',hx,_⟩);exact⟨ι',r,g1,g2,rfl,zA l a p r hr⟩;exfalso;have u:=zA l a p r hr;obtain⟨C,n,_⟩:=D9 u;obtain⟨s,_,_,m,_⟩:=wm n;rw [hx] at m;simp only [pJ] at m;obtain⟨y,q,_⟩:=D9 m;simp only [iJ] at q;cases q
theorem DY {α:Type}(l:List α):(T.ofList l).slice l.length 0=some l:=by
 have a:∀(k i:Nat),i+k=l.length->(T.ofList l).slice k i=some (l.drop i):=by
  intro k;induction k with
  | zero=>intro i h;rw [T.Jg,zu (by omega)]
  | succ k ih=>
   intro i h;have b:i<l.length:=by omega
   rw [T.BP,T.bN,cB b,I9,ih (i+1) (by omega),I9,List.getElem_cons_drop]
 exact a l.length 0 (by omega)
theorem TP (nb:NB):AU (eO nb)=some nb:=by
 cases nb with
 | cells rs rows=>show (ob ((T.ofList rows).slice (len' rows) 0) λl=>some (NB.cells rs l))=_;rw [K7,DY];rfl
 | map es=>rfl
 | tail p=>rfl
 | dead=>rfl
def jk (g:Nat)(ι:N9)(ids:List Nat):N9:=λi=>if i<g then ι i else ι (ids.getD (i-g) 0)
theorem adl (J:∃Ng,Oy G Ng)(u:RM P G ι m w.heap){vs:List d9}{c:CO}(hc:kJ G.nx vs m=some c)(U:eU (m.nm ι) vs):
  RM P G (jk G.nx ι c.ids) (P7 G c.bs) w.heap∧eU ((P7 G c.bs).nm (jk G.nx ι c.ids)) c.vs∧C8 (jk G.nx ι c.ids) c.vs=C8 ι vs∧c.bs.length=c.ids.length∧
   (∀(k i:Nat),c.ids[k]?=some i->G.nx<=i∧m.has i)∧(∀i,G.nx<=i->i<(P7 G c.bs).nx->∃j,c.ids[i-G.nx]?=some j):=by
 obtain⟨Ng,J⟩:=J;obtain⟨N,⟨R,a0⟩,r,O,h4⟩:=wm hc;obtain⟨Y,l2,l3,l4⟩:=tC c.bs G J.ok;obtain⟨b1,b2⟩:=Am _ _ h4;have B:c.bs.length=c.ids.length:=by rw [b1,r];simp
 have h:∀(k i:Nat),c.ids[k]?=some i->G.nx<=i∧∃b z nb',m.get i=some b∧AU b=some z∧c.bs[k]?=some nb'∧sG (uh G.nx c.ids) z=some nb':=by
  intro k i n;rw [r,acs] at n;cases hp:N[k]? with
  | none=>rw [hp] at n;cases n
  | some p=>
   rw [hp] at n;have n:p.1=i:=su n;obtain⟨C,b,D,A⟩:=R p (O7 hp);rw [n] at C D;have L:k<c.bs.length:=by rw [B,r,adN];exact (gB.1 hp).1
   obtain⟨y,E,Z⟩:=b2 k _ (cB L);rw [acs,hp] at E;have E:p.2=y:=su E;rw [← E] at Z;exact⟨C,b,p.2,_,D,A,cB L,Z⟩
 have f:∀i,(P7 G c.bs).get i=if i<G.nx then G.get i else (c.bs[i-G.nx]?).map eO:=l4
 have v:(P7 G c.bs).nx=G.nx+c.bs.length:=l2;have d:∀i,i<G.nx->m.get i=G.get i:=u.base;have F:∀k i,c.ids[k]?=some i->jk G.nx ι c.ids (G.nx+k)=ι i:=by intro k i n;unfold jk;rw [if_neg (by omega),show G.nx+k-G.nx=k from by omega,M9,n];rfl
 have o:∀i,i<G.nx->jk G.nx ι c.ids i=ι i:=λi g=>if_pos g;have X:GL ι (m.nm ι) (jk G.nx ι c.ids) ((P7 G c.bs).nm (jk G.nx ι c.ids)) (uh G.nx c.ids):=by intro i j s ⟨y,hy,hyv⟩;rcases MG s with⟨l,rfl⟩ | ⟨l,I,O⟩;refine⟨⟨y,?_,hyv⟩,o _ l,congrArg Loc.cap (o _ l)⟩;rw [f,if_pos l,← d _ l];exact hy;have e:=F (j-G.nx) i O;rw [show G.nx+(j-G.nx)=j from by omega] at e;obtain⟨_,_,_,nb',_,_,q,_⟩:=h (j-G.nx) i O;refine⟨⟨eO nb',?_,Ci nb'⟩,e,congrArg Loc.cap e⟩;rw [f,if_neg (by omega),q];rfl
 have T:GL ι (m.nm ι) (jk G.nx ι c.ids) ((P7 G c.bs).nm (jk G.nx ι c.ids)) (λi=>bi (Nat.blt i G.nx) (some i) none):=by intro i j s ⟨y,hy,hyv⟩;have s:bi (Nat.blt i G.nx) (some i) none=some j:=s;obtain⟨l,I⟩:=J9 s;cases I;have l:i<G.nx:=Eq.mp O6 l;refine⟨⟨y,?_,hyv⟩,o _ l,congrArg Loc.cap (o _ l)⟩;rw [f,if_pos l,← d _ l];exact hy
 obtain⟨v1,v2⟩:=lX X vs c.vs O U;have H:∀i x,(P7 G c.bs).get i=some x->bG x=true->(jk G.nx ι c.ids i).spot=none:=by
  intro i b a M;rw [f] at a;split at a;rename_i g;rw [o i g];exact u.spot i b (by rw [d i g];exact a) M;rename_i g;cases hnb:c.bs[i-G.nx]? with
  | none=>rw [hnb] at a;cases a
  | some z=>
   rw [hnb] at a;have a:eO z=b:=su a;subst a;have n:i-G.nx<c.ids.length:=by have:=(gB.1 hnb).1;omega
   have t:=cB n;obtain⟨_,bb,W,nb',C,D,A,E⟩:=h _ _ t;rw [hnb] at A;cases A;have e:=F (i-G.nx) _ t;rw [show G.nx+(i-G.nx)=i from by omega] at e;rw [e];exact u.spot _ _ C (by rw [← JN D E];exact M)
 refine⟨⟨Y,?_,λi x g V=>?_,?_,aA _,u.gle,λi g=>by rw [f,if_pos g],λi g=>?_,λi g=>?_,λi x V hl=>?_,u.gsz⟩,v2,v1,B,λk i n=>?_,λi l I=>?_⟩;intro i b a;rw [f] at a;split at a;rename_i g;rw [o i g];have S:m.get i=some b:=by rw [d i g];exact a
 have Q:=u.blk i b S;rw [J.get i g] at a;cases hnb:Ng[i]? with
 | none=>rw [hnb] at a;cases a
 | some z=>rw [hnb] at a;have a:eO z=b:=su a;subst a;exact Ox T Q (TP z) (J.shut z (O7 hnb))
 rename_i g;cases hnb:c.bs[i-G.nx]? with
 | none=>rw [hnb] at a;cases a
 | some z=>
  rw [hnb] at a;have a:eO z=b:=su a;subst a;have n:i-G.nx<c.ids.length:=by have:=(gB.1 hnb).1;omega
  have t:=cB n;obtain⟨_,bb,W,nb',C,D,A,E⟩:=h _ _ t;rw [hnb] at A;cases A;have e:=F (i-G.nx) _ t;rw [show G.nx+(i-G.nx)=i from by omega] at e;rw [e];exact Ox X (u.blk _ _ C) D E
 have:=Mem.Q6 (m:=P7 G c.bs) Y V;have g:(P7 G c.bs).nx<=i:=g;omega;show G.nx<=(P7 G c.bs).nx;rw [v];omega;obtain⟨y,l,I⟩:=u.ghas i g;have K:i<G.nx:=aP g u.gle;exact⟨y,by rw [f,if_pos K,← d i K];exact l,I⟩;rw [o i (aP g u.gle)];exact u.glob i g;exact H i x V hl;obtain⟨C,b,z,_,D,A,_⟩:=h k i n;exact⟨C,b,D,XQ A⟩;rw [v] at I;exact⟨_,cB (by omega)⟩
def iQ (next:Nat)(ι ι2:N9)(ids:List Nat):N9:=λi=>if i<next then ι i else ι2 (ids.getD (i-next) 0)
theorem GR {g b i j:Nat}{a:List Nat}(h:iK g a b i=some j):
  (i<g∧j=i)∨(g<=i∧i-g<a.length∧a[i-g]?=some j)∨(g+a.length<=i∧j=b+(i-g-a.length)):=by
 unfold iK at h;rw [K7] at h;cases c:Nat.blt i g with
 | true=>rw [c] at h;have h:some i=some j:=h;cases h;exact .inl ⟨Eq.mp O6 c,rfl⟩
 | false=>
  rw [c] at h;have c:=uX c;cases d:Nat.blt (Nat.sub i g) a.length with
  | true=>rw [d] at h;have h:vJ (i-g) a=some j:=h;rw [ng] at h;exact .inr (.inl ⟨c,Eq.mp O6 d,h⟩)
  | false=>rw [d] at h;have d:a.length<=i-g:=uX d;have h:some (b+(i-g-a.length))=some j:=h;cases h;exact .inr (.inr ⟨by omega,rfl⟩)
theorem QW (hB:∃Ng,Oy G Ng){f:FuncId}{args:List d9}{c:CO}{a:EK}{v:d9}{F:List NB}(E:RM P G ι m w.heap)(a2:eU (m.nm ι) args)(hc:kJ G.nx args m=some c)(ha:lF P G f c.vs c.bs a)
  (hv:iJ (iK G.nx c.ids m.nx) a.v=some v) (ag:wS (iK G.nx c.ids m.nx) a.bs=some F):
  CallsIn Fence.wide 0 P f (C8 ι args).toArray w (eY P G ι m w [⟨v,layAll F m⟩]):=by
 have a5:T.Ok G.t G.nx:=by obtain⟨Ng,hB⟩:=hB;exact hB.ok
 obtain⟨ab,X,a3,a9,a6,ao⟩:=adl hB E hc a2;have N:=ha (jk G.nx ι c.ids) w ab X;rw [a3] at N;refine N.mono ?_;rintro e w' ⟨ι2,r,hst,hrv,rfl,C⟩;obtain⟨g,ah,C⟩:=D9 C;obtain⟨ad,⟨ai,aj⟩,R,J,Y⟩:=wm ah;have an:∃u,g.vs=[u]∧iJ (uh (layAll c.bs G).nx g.ids) r.v=some u:=by simp only [pJ] at J;obtain⟨x,W,J⟩:=D9 J;obtain⟨y,h6,J⟩:=D9 J;cases h6;have J:some [x]=some g.vs:=J;exact⟨x,(su J).symm,W⟩
 obtain⟨u,hu,am⟩:=an;rw [hu] at C;have C:some (⟨u,g.bs⟩:EK)=some a:=C;cases C;obtain⟨b1,b2⟩:=Am _ _ Y;obtain⟨b3,b4⟩:=Am _ _ ag;obtain⟨l1,l2,l3,l4⟩:=tC c.bs G a5;obtain⟨k1,k2,k3,k4⟩:=tC F m E.ok;have au:(P7 G c.bs).lim=(layAll c.bs G).nx:=rfl;have ae:(layAll c.bs G).nx=G.nx+c.ids.length:=by rw [l2,a9]
 have ac:∀b,¬ Qg (jk G.nx ι c.ids) (P7 G c.bs) b:=by rintro b ⟨i,x,B,A,_,_⟩;have:=Mem.Q6 (m:=P7 G c.bs) ab.ok A;have B:(P7 G c.bs).nx<=i:=B;omega
 have K:∀b,b<w.heap.size->w'.heap[b]?=w.heap[b]?:=λb hb=>hst.frame b hb (ac b);have s:∀i x,(layAll c.bs G).nx<=i->r.m.get i=some x->bG x=true->w.heap.size<=(ι2 i).b:=by intro i x B A L;rcases hst.own _ ⟨i,x,by rw [hst.lim];exact B,A,L,rfl⟩ with h | h;exact absurd h (ac _);exact h
 have V:∀(k i:Nat),g.ids[k]?=some i->(layAll c.bs G).nx<=i∧∃b nb nb',r.m.get i=some b∧AU b=some nb∧F[k]?=some nb'∧
   sG (λi=>ob (uh (layAll c.bs G).nx g.ids i) (iK G.nx c.ids m.nx)) nb=some nb':=by
  intro k i M;have ar:=M;rw [R,acs] at M;cases hp:ad[k]? with
  | none=>rw [hp] at M;cases M
  | some p=>
   rw [hp] at M;have M:p.1=i:=su M;obtain⟨q1,b,q2,q3⟩:=ai p (O7 hp);rw [M] at q1 q2;have a4:k<g.bs.length:=by rw [b1,adN];exact (gB.1 hp).1
   have Z:k<F.length:=by rw [b3];exact a4
   obtain⟨y,q4,q5⟩:=b2 k _ (cB a4);obtain⟨z,q6,q7⟩:=b4 k _ (cB Z);have q6:g.bs[k]?=some z:=q6;rw [cB a4] at q6;cases q6;rw [acs,hp] at q4;have q4:p.2=y:=su q4;rw [← q4] at q5;exact⟨q1,b,p.2,_,q2,q3,cB Z,XR q5 q7⟩
 have aq:F.length=g.ids.length:=by rw [b3];show g.bs.length=_;rw [b1,R];simp
 have H:∀i,(layAll F m).get i=if i<m.nx then m.get i else (F[i-m.nx]?).map eO:=k4
 have d:∀i,i<m.nx->iQ m.nx ι ι2 g.ids i=ι i:=λi B=>if_pos B;have o:∀k i,g.ids[k]?=some i->iQ m.nx ι ι2 g.ids (m.nx+k)=ι2 i:=by intro k i M;unfold iQ;rw [if_neg (by omega),show m.nx+k-m.nx=k from by omega,M9,M];rfl
 have aa:∀i x,m.get i=some x->i<m.nx:=λi x A=>Mem.Q6 E.ok A;have I:∀i,m.has i->(layAll F m).has i:=λi ⟨x,h1,h2⟩=>⟨x,by rw [H,if_pos (aa i x h1)];exact h1,h2⟩;have D:∀i,m.has i->iQ m.nx ι ι2 g.ids i=ι i:=λi ⟨x,h1,_⟩=>d i (aa i x h1);have ap:G.nx<=m.nx:=nM E.glim E.limn;have hr:GL ι2 (r.m.nm ι2) (iQ m.nx ι ι2 g.ids) ((layAll F m).nm (iQ m.nx ι ι2 g.ids)) (λi=>ob (uh (layAll c.bs G).nx g.ids i) (iK G.nx c.ids m.nx)):=by
  intro i j ak ⟨y,hy,hyv⟩;obtain⟨t,W,h6⟩:=D9 ak;have a1:(layAll F m).has j∧iQ m.nx ι ι2 g.ids j=ι2 i->((layAll F m).nm (iQ m.nx ι ι2 g.ids)) j∧iQ m.nx ι ι2 g.ids j=ι2 i∧((layAll F m).nm (iQ m.nx ι ι2 g.ids)).cap j=(r.m.nm ι2).cap i:=
   λ⟨p,q⟩=>⟨p,q,congrArg Loc.cap q⟩
  rcases MG W with⟨h7,rfl⟩ | ⟨h7,h8,h9⟩
  ·
   have O:(P7 G c.bs).get t=some y:=by rw [← hst.old t h7];exact hy
   have a0:ι2 t=jk G.nx ι c.ids t:=hst.ext t ⟨y,O,hyv⟩;rcases GR h6 with⟨h10,rfl⟩ | ⟨h10,h11,h12⟩ | ⟨h10,_⟩;have U:m.has j:=by
    refine⟨y,?_,hyv⟩;have af:(P7 G c.bs).get j=if j<G.nx then G.get j else (c.bs[j-G.nx]?).map eO:=l4 j
    rw [af,if_pos h10] at O;rw [E.base j h10];exact O
   exact a1 ⟨I j U,by rw [D j U,a0];exact (if_pos h10).symm⟩;obtain⟨_,U⟩:=a6 _ _ h12;refine a1 ⟨I j U,?_⟩;rw [D j U,a0];unfold jk;rw [if_neg (by omega),M9,h12];rfl;omega
  ·
   rcases GR h6 with⟨h10,_⟩ | ⟨h10,h11,_⟩ | ⟨h10,rfl⟩;omega;omega;have e:t-G.nx-c.ids.length=t-(layAll c.bs G).nx:=by omega
   obtain⟨_,_,_,nb',_,_,q,_⟩:=V _ _ h9;refine a1 ⟨⟨eO nb',?_,Ci nb'⟩,by rw [e];exact o _ _ h9⟩;rw [e,H,if_neg (by omega),show m.nx+(t-(layAll c.bs G).nx)-m.nx=t-(layAll c.bs G).nx from by omega,q];rfl
 obtain⟨v1,v2⟩:=rJ hr r.v v (vk _ _ _ am hv) hrv;have l:∀i x,(layAll F m).get i=some x->(i<m.nx∧m.get i=some x)∨∃k id b,i=m.nx+k∧g.ids[k]?=some id∧r.m.get id=some b∧(layAll c.bs G).nx<=id∧bG x=bG b∧
   gW P (iQ m.nx ι ι2 g.ids) ((layAll F m).nm (iQ m.nx ι ι2 g.ids)) w'.heap (ι2 id) x:=by
  intro i x A;rw [H] at A;split at A;exact .inl ⟨by assumption,A⟩;rename_i B;cases hnb:F[i-m.nx]? with
  | none=>rw [hnb] at A;cases A
  | some nb=>
   rw [hnb] at A;have A:eO nb=x:=su A;subst A;have M:i-m.nx<g.ids.length:=by have:=(gB.1 hnb).1;omega
   have a7:=cB M;obtain⟨q0,b,av,nb',q1,q2,q3,q4⟩:=V _ _ a7;rw [hnb] at q3;cases q3;exact .inr ⟨i-m.nx,_,b,by omega,a7,q1,q0,JN q2 q4,Ox hr (hst.rm.blk _ _ q1) q2 q4⟩
 refine .inl ⟨u7 ι2 r.v,rfl,⟨v,layAll F m⟩,nA.2 rfl,iQ m.nx ι ι2 g.ids,?_,v2,v1.symm⟩;refine⟨⟨k1,?_,?_,by rw [k3];exact E.glim,by rw [k3,k2];exact nM E.limn (by omega),E.gle,λi B=>by rw [H,if_pos (by omega)];exact E.base i B,λi B=>I i (E.ghas i B),
  λi B=>by rw [D i (E.ghas i B)];exact E.glob i B,λi x A L=>by
   rcases l i x A with⟨h1,h2⟩ | ⟨k,id,b,rfl,h2,J,_,W,_⟩;rw [d i h1];exact E.spot i x h2 L;rw [o k id h2];exact hst.rm.spot id b J (by rw [← W];exact L),hst.rm.gsz⟩,D,I,by rw [k2];omega,k3,λi B=>by rw [H,if_pos (by have:=E.limn;omega)],hst.size,λb hb _=>K b hb,?_,hst.os,hst.out,hst.tape⟩
 intro i x A;rcases l i x A with⟨h1,h2⟩ | ⟨k,id,b,rfl,h2,J,_,_,Y⟩;rw [d i h1];exact (E.blk i x h2).mono (n:=m.nm ι) D (Mem.cK I D) λL=>K _ (gX (E.blk i x h2) L);rw [o k id h2];exact Y;intro i x B A L;rw [k3] at B;rcases l i x A with⟨h1,h2⟩ | ⟨k,id,b,rfl,h2,J,Y,W,h6⟩;have ho:=E.own i x B h2 L;have hb:=gX (E.blk i x h2) L;refine⟨λj y hj hy S=>?_,λc e fz Q=>?_⟩;rcases l j y hy with⟨g1,g2⟩ | ⟨k',id',b',rfl,g2,g3,g4,g5,g6⟩;rw [d j g1,d i h1];exact ho.alone j y hj g2 S;rw [o k' id' g2,d i h1];have:=s id' b' g4 g3 (by rw [← g5];exact S);omega;rw [d i h1,K _ hb] at Q;exact ho.free c e fz Q;have a8:bG b=true:=by rw [← W];exact L
 have ho:=hst.rm.own id b (by rw [hst.lim];exact Y) J a8;have hn:=s id b Y J a8;refine⟨λj y hj hy S=>?_,λc e fz Q=>?_⟩;rw [o k id h2];rcases l j y hy with⟨g1,g2⟩ | ⟨k',id',b',rfl,g2,g3,g4,g5,g6⟩;rw [d j g1];have:=gX (E.blk j y g2) S;omega;rw [o k' id' g2];refine ho.alone id' b' (λe=>hj ?_) g3 (by rw [← g5];exact S);subst e;have al:g.ids.Nodup:=by rw [R];exact aj
 have:k'=k:=(adU (gB.1 g2).1 al).1 (g2.trans h2.symm);rw [this];rw [o k id h2] at Q;exact ho.free c e fz Q;rintro b ⟨i,x,B,A,L,rfl⟩;rw [k3] at B;rcases l i x A with⟨h1,h2⟩ | ⟨k,id,bb,rfl,h2,J,Y,W,h6⟩;rw [d i h1];exact .inl ⟨i,x,B,h2,L,rfl⟩;rw [o k id h2];exact .inr (s id bb Y J (by rw [← W];exact L))
end
end
end Go.AM
