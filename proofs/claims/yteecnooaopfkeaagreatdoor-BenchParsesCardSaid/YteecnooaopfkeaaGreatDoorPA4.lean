/- A part of an evaluator for the model, proved sound: what it answers holds of the model; it speaks of every program, no condition. -/
import Derived.Test.YteecnooaopfkeaaGreatDoorPA3
import Derived.RecoverIn
set_option linter.all false
namespace Go.AM
open Go
theorem qo {α:Type}{f:α->Option Nat}:∀{l:List α},(l.filterMap f).Nodup->∀{i j:Nat} {x y:α} {t:Nat},l[i]?=some x->l[j]?=some y->f x=some t->f y=some t->i=j
 | [],_,i,j,x,y,t,hi,_,_,_=>by simp at hi
 | z::l,h,i,j,x,y,t,hi,hj,hx,hy=>by
  have hmem:∀{k:Nat} {u:α},l[k]?=some u->f u=some t->t∈l.filterMap f:=λhk hu=>List.mem_filterMap.2 ⟨_,Y5 hk,hu⟩;cases hz:f z with
  | none=>
   rw [List.filterMap_cons_none hz] at h;cases i with
   | zero=>simp at hi;subst hi;rw [hz] at hx;cases hx
   | succ i=>
    cases j with
    | zero=>simp at hj;subst hj;rw [hz] at hy;cases hy
    | succ j=>exact congrArg Nat.succ (qo h (i:=i) (j:=j) (by simpa using hi) (by simpa using hj) hx hy)
  | some u=>
   rw [List.filterMap_cons_some hz] at h;obtain⟨h1,h2⟩:=afp.1 h;cases i with
   | zero=>
    simp at hi;subst hi;rw [hz] at hx;cases hx;cases j with
    | zero=>rfl
    | succ j=>exact absurd (hmem (by simpa using hj) hy) h1
   | succ i=>
    cases j with
    | zero=>simp at hj;subst hj;rw [hz] at hy;cases hy;exact absurd (hmem (by simpa using hi) hx) h1
    | succ j=>exact congrArg Nat.succ (qo h2 (i:=i) (j:=j) (by simpa using hi) (by simpa using hj) hx hy)
section
variable {P:Program}{G:Mem}{slots:List Nat}{nt:Nat}{cf:F4}{ops:Array Oper}
theorem JI {α:Type}(l:List α)(p k:Nat)(hp:p<=l.length)(hk:k<p):(l.take p).reverse[k]?=l[p-1-k]?:=by rw [List.getElem?_reverse (by simp;omega),aio,aft,if_pos (by omega)];congr 1;omega
theorem XU {ord:List Nat}{X:Nat->Nat×Inst}{insts:List Inst}(hlen:insts.length=ord.length)(hX:∀p x,insts[p]?=some x->(X p).2=x):∀p,p<=ord.length->
  za ord X p=(((((ord.zip insts).take p).filter λy=>aB y.2).map (·.1)).reverse):=by
 intro p;induction p with
 | zero=>intro _;rfl
 | succ p ih=>
  intro hp;have h1:p<(ord.zip insts).length:=by rw [List.length_zip];omega
  have h2:(ord.zip insts)[p]=(ord[p]'(by omega),insts[p]'(by omega)):=List.getElem_zip ..;rw [ad7 h1,List.filter_append,ae1,List.reverse_append,← ih (by omega)];have h3:(X p).2=insts[p]'(by omega):=hX p _ (J7 (by omega));have h4:ord.getD p 0=ord[p]'(by omega):=by rw [Z8,J7 (by omega)];rfl
  simp only [za,h2,h3,h4];cases he:aB (insts[p]'(by omega))<;>simp [he]
theorem Em {α:Type}(f:α->Bool)(l:List α){p q:Nat}(hpq:p<q)(hp:p<l.length)(hf:f l[p]=true):((l.take p).filter f).length<((l.take q).filter f).length:=by
 have h1:l.take (p+1)=(l.take q).take (p+1):=by rw [List.take_take];congr 1;omega
 have h2:((l.take (p+1)).filter f).length<=((l.take q).filter f).length:=by rw [h1];exact ((List.take_sublist _ _).filter f).length_le
 rw [ad7 hp,List.filter_append] at h2;simp [hf] at h2;omega
theorem Vf {n:Nat}{l:List (Nat×Inst)}(hcl:yC P slots ops=some (.dreg n l))(hin:∀(i:Nat)(o:Oper)(t:Tmp),ops[i]?=some o->o.dst=some t->t<nt){b:Nat}{S:Nat->DS}(hls:(S 0).ls=[])(hgs:(S 0).gs=[(S 0).m])(hst:∀p x,l[p]?=some x->Mj cf b x (S p) (S (p+1))):
  ∃ord X,Fixed P slots nt cf b ops ord X S∧l.length=ord.length∧∀p x,l[p]?=some x->X p=x:=by
 unfold yC at hcl;split at hcl;cases hcl;rename_i insts hci;split at hcl;rename_i hok;cases hcl;generalize hord:canon (Dm ops) (masks ops.toList) ops.size=ord at *;simp only [Ur,U9] at hok;obtain⟨⟨⟨⟨c1,c2⟩,c3⟩,c4⟩,c5⟩:=hok;obtain⟨hlen,hat⟩:=Sc _ _ _ hci;obtain⟨hnl,hnum⟩:=Mt (masks ops.toList) (ord.zip insts) [] 0;have hzl:(ord.zip insts).length=ord.length:=by rw [List.length_zip];omega
 generalize hl:numbered (masks ops.toList) (ord.zip insts) [] 0=l at *;have hz:∀p i x,ord[p]?=some i->insts[p]?=some x->(ord.zip insts)[p]?=some (i,x):=λp i x h1 h2=>by rw [agb];exact⟨h1,h2⟩
 have hX:∀p i,ord[p]?=some i->∃x o,insts[p]?=some x∧ops[i]?=some o∧pz P slots (fV ops ord p) ops i=some (x,o.dst)∧(l.getD p default).2=x∧l[p]?=some (l.getD p default):=by intro p i hp;obtain⟨x,o,h1,h2,h3⟩:=hat p i hp;obtain⟨c,h4,_⟩:=hnum p i x (hz p i x hp h1);refine⟨x,o,h1,h2,by simpa using h3,by rw [Z8,h4];rfl,by rw [Z8,h4];rfl⟩
 have hlt:∀i∈ord,i<ops.size:=λi hi=>Eq.mp Y8 (ace.1 c2 i hi);have hchk:∀p i x,ord[p]?=some i->insts[p]?=some x->ug (masks ops.toList) ops i x ((ord.zip insts).take p).reverse=true:=λp i x h1 h2=>by have:=Mh c5 p (i,x) (hz p i x h1 h2);simpa using this
 have hbef:∀p q j,q<p->p<=ord.length->ord[q]?=some j->∃x,(j,x)∈((ord.zip insts).take p).reverse∧insts[q]?=some x:=λp q j hq hp hj=>by obtain⟨x,_,h1,_⟩:=hX q j hj;refine⟨x,aiL.2 ?_,h1⟩;refine Y5 (i:=q) ?_;rw [aft,if_pos hq];exact hz q j x hj h1
 have hopd:∀p i,p<ord.length->ord[p]?=some i->∀y,Qc (masks ops.toList) i ((ord.zip insts).take p).reverse y=true->Mv ops ord (λp=>l.getD p default) p i y:=by
  intro p i hp hi y hy;cases y with
  | con c=>trivial
  | loc k=>
   simp only [Qc] at hy;split at hy;rename_i z hz';have hk:k<p:=by have:=(J5.1 hz').1;simp at this;omega
   rw [JI _ _ _ (by omega) hk] at hz';obtain⟨h1,_⟩:=agb.1 hz';exact⟨z.1,hk,h1,fA ops i z.1 hy⟩;cases hy
  | slot j=>intro q hq e;obtain⟨x,hm,hx⟩:=hbef p q (ord[q]'(by omega)) hq (by omega) (J7 (by omega));obtain⟨x',o',h1,_,_,h2,_⟩:=hX q (ord[q]'(by omega)) (J7 (by omega));rw [hx] at h1;cases h1;have:=ace.1 hy _ hm;rw [h2] at e;simp [e] at this
 refine⟨ord,λp=>l.getD p default,⟨xL c1,λi hi=>?_,hlt,λp i hp=>?_,λp hp=>?_,λp i hp hE q j hq hj=>?_,λp i o hp ho e he hb=>?_,λi j oi oj t hi hj h1 h2=>?_,λi o t ho ht q oq hq hne hqt=>?_,λp i hp y hy=>?_,
  λp i y wt hp hg=>?_,λp i o hp ho=>?_,λp q o o' hpq hq ho ho'=>?_,hin,hgs,hls⟩,by rw [hnl,hzl],λp x h=>by simp [Z8,h]⟩
 have:=ace.1 c3 i (adY.2 hi);simpa using this;obtain⟨x,o,h1,h2,h3,h4,_⟩:=hX p i hp;obtain⟨o',g1,g2,g3,g4,g5⟩:=kQ h3;rw [h2] at g1;cases g1;exact⟨o,h2,by show (l.getD p default).2.op=_;rw [h4];exact g3,by show (l.getD p default).2.dst=_;rw [h4];exact g4,by show mX _ _ _ (l.getD p default).2.guard;rw [h4];exact g5⟩;obtain⟨x,o,_,_,_,_,h5⟩:=hX p (ord[p]) (J7 hp);exact hst p _ h5;obtain⟨x,o,h1,h2,h3,h4,_⟩:=hX p i hp;have hE:aB (l.getD p default).2=true:=hE;rw [h4] at hE;have hc:=hchk p i x hp h1;simp only [ug,U9] at hc;have hc:=hc.1.1.1;unfold aB at hE;split at hE;rename_i eo heo;rw [heo] at hc;obtain⟨x',hm,_⟩:=hbef p q j hq (by have:=(J5.1 hp).1;omega) hj;exact fA ops i j (ace.1 hc _ hm);cases hE;obtain⟨x,o',h1,h2,h3,h4,_⟩:=hX p i hp;have hc:=hchk p i x hp h1;simp only [ug,U9] at hc;have hc:=hc.1.1.2;rw [ho] at hc;simp only [U9] at hc;have:=ace.1 hc.1 e (by simpa using he);rw [hb] at this;simp only [ail,aiG] at this;obtain⟨y,hy,hye⟩:=List.any_eq_true.1 this;obtain⟨q,hq⟩:=aaS (aiL.1 hy);rw [aft] at hq;split at hq;rename_i hqp;obtain⟨g1,_⟩:=agb.1 hq;exact⟨q,hqp,by rw [g1];simpa using hye⟩;cases hq;exact qo (xL c4) (by simpa using hi) (by simpa using hj) h1 h2;obtain⟨p,hp⟩:=aaS (show i∈ord from by have:=ace.1 c3 i (adY.2 (K9.1 ho).1);simpa using this);obtain⟨x,o',h1,h2,h3,h4,_⟩:=hX p i hp;have hc:=hchk p i x hp h1;simp only [ug,U9] at hc;have hc:=hc.1.1.2;rw [ho] at hc;simp only [U9] at hc;have:=ace.1 (ace.1 hc.2 t ht) q (adY.2 (K9.1 hq).1);rw [hq] at this;simp only [hqt,bne_self_eq_false,Bool.or_false,afD,beq_iff_eq] at this;rcases this with (h | h) | h;exact absurd h hne;exact .inl (fA ops i q h);exact .inr (fA ops q i h);obtain⟨x,o',h1,h2,h3,h4,_⟩:=hX p i hp;have hc:=hchk p i x hp h1;simp only [ug,U9] at hc;have hy:y∈CV (l.getD p default).2.op:=hy;rw [h4] at hy
 exact hopd p i (J5.1 hp).1 hp y (ace.1 hc.1.2 y hy);obtain⟨x,o',h1,h2,h3,h4,_⟩:=hX p i hp;have hc:=hchk p i x hp h1;simp only [ug,U9] at hc;have hg:(l.getD p default).2.guard=some (y,wt):=hg;rw [h4] at hg;have hc:=hc.2;rw [hg] at hc;exact hopd p i (J5.1 hp).1 hp y hc;obtain⟨x,o',h1,h2,h3,h4,h5⟩:=hX p i hp;obtain⟨c,g1,g2,_⟩:=hnum p i x (hz p i x hp h1);have ho:(l.getD p default).2.op=.r o:=ho;rw [h4] at ho;have hc:(l.getD p default).1=c:=by rw [Z8,g1];rfl
 show (l.getD p default).1=_;rw [hc,g2 (by simp [isR,ho]),aiw,XU hlen (λp x hp'=>?_) p (afz (J5.1 hp).1)];have hpl:p<ord.length:=by have:=(J5.1 hp').1;omega
 obtain⟨x',_,g3,_,_,g4,_⟩:=hX p (ord[p]) (J7 hpl);rw [hp'] at g3;cases g3;exact g4;have hp:p<ord.length:=by omega
 obtain⟨x,o1,h1,h2,h3,h4,h5⟩:=hX p (ord[p]) (J7 hp);obtain⟨y,o2,k1,k2,k3,k4,k5⟩:=hX q (ord[q]) (J7 hq);obtain⟨c,g1,_,g2⟩:=hnum p _ x (hz p _ x (J7 hp) h1);obtain⟨c',g3,_,g4⟩:=hnum q _ y (hz q _ y (J7 hq) k1);have ho:(l.getD p default).2.op=.a o:=ho;have ho':(l.getD q default).2.op=.a o':=ho';rw [h4] at ho;rw [k4] at ho';show (l.getD p default).1<(l.getD q default).1;rw [show (l.getD p default).1=c from by rw [Z8,g1];rfl,show (l.getD q default).1=c' from by rw [Z8,g3];rfl,g2 (by simp [isR,ho]),g4 (by simp [isR,ho'])];have hzp:(ord.zip insts)[p]'(by rw [hzl];exact hp)=(ord[p],x):=by have:=hz p _ x (J7 hp) h1;rw [J7 (by rw [hzl];exact hp)] at this;exact Y7 this
 have:=Em (λy:Nat×Inst=>isA y.2) (ord.zip insts) hpq (by rw [hzl];exact hp) (by rw [hzp];simp [isA,ho]);omega;cases hcl
def sO (n:Nat)(listed:Array Bool):Nat:=((List.range n).filter λi=>!listed.getD i false).length
theorem Aq {listed:Array Bool}{n i:Nat}(hn:listed.size=n)(hi:i<n)(hun:listed.getD i false=false):sO n (listed.setIfInBounds i true)+1=sO n listed:=by
 unfold sO;have key:∀l:List Nat,l.Nodup->(l.filter λj=>!(listed.setIfInBounds i true).getD j false).length+(if i∈l then 1 else 0)=(l.filter λj=>!listed.getD j false).length:=by
  intro l;induction l with
  | nil=>intro _;simp
  | cons x l ih=>
   intro h;obtain⟨h1,h2⟩:=afp.1 h;have:=ih h2;by_cases hx:x=i;subst hx;rw [if_neg h1] at this;rw [if_pos (by simp),aib (by rw [ak _ _ _ (by omega),if_pos rfl];simp),ahn (by rw [hun];rfl),abW];omega;have e:(listed.setIfInBounds i true).getD x false=listed.getD x false:=by rw [ak _ _ _ (by omega),if_neg hx]
   have hmem:(i∈x::l)↔i∈l:=Z7.trans ⟨λh=>h.resolve_left (λe=>hx e.symm),.inr⟩;simp only [hmem];cases hl:listed.getD x false with
   | true=>rw [aib (by rw [e,hl];simp),aib (by rw [hl];simp)];exact this
   | false=>rw [ahn (by rw [e,hl];rfl),ahn (by rw [hl];rfl),abW,abW];omega
 have:=key (List.range n) List.nodup_range;rw [if_pos (adY.2 hi)] at this;exact this
theorem Vg {b:Nat}{ord:List Nat}{X:Nat->Nat×Inst}{S:Nat->DS}{listed:Array Bool}(F:Fixed P slots nt cf b ops ord X S)(hall:∀p,p<ord.length->Lp ord listed p=true):∀p,p<=ord.length->zf ord X S listed p=(S p).env:=by
 intro p;induction p with
 | zero=>intro _;rfl
 | succ p ih=>intro hp;obtain⟨_,h2⟩:=F.ls (p:=p) (by omega);rw [h2,← ih (by omega)];show bW (X p).2.dst (vm ord S listed p) _=_;simp [vm,hall p (by omega)]
def OV (P:Program)(G:Mem)(slots:List Nat)(nt:Nat)(cf:F4)(r:Option Nat):Prop:=
 ∀(ops:Array Oper) (n:Nat) (l:List (Nat×Inst)),yC P slots ops=some (.dreg n l)->(∀(i:Nat) (o:Oper) (t:Tmp),ops[i]?=some o->o.dst=some t->t<nt)->
  ∀(Q:Exit->Act->World->Prop) (env:T j3) (m:Mem) (ι:K4) (w:World) (a:Act) (outs:List EM),
  RM P G ι m w.heap->U7 ι (m.nm ι) slots env a.tmps->nt<=a.tmps.size->tV l cf m.nx [] env (reserve n m) [reserve n m]=some outs->
  (∀e∈outs,e.px=none->e.mks=[]->∀ι' w' a',Step P G ι m w ι' e.m w'->U7 ι' (e.m.nm ι') slots e.env a'.tmps->a'.defers=a.defers->a'.tmps.size=a.tmps.size->Q .normal a' w')->
  (∀e∈outs,∀y,e.px=some y->e.mks=[]->∀ι' w' a',Step P G ι m w ι' e.m w'->y.lt (e.m.nm ι')->U7 ι' (e.m.nm ι') slots e.env a'.tmps->a'.defers=a.defers->a'.tmps.size=a.tmps.size->Q (.panic [{v:=o8 ι' y,recovered:=false}]) a' w')->
  wpAnyIn (FR r) 0 P .any ops Q ops.size (Array.replicate ops.size false) a {w with drawn:=w.drawn+1}
theorem Bu (hcf:mU P G cf)(slots:List Nat)(nt:Nat)(r:Option Nat):OV P G slots nt cf r:=by
 intro ops n l hcl hin Q env m ι w a outs hm hen hnt hv hQ hQp;obtain⟨S,hS0,hch⟩:=OT (cf:=cf) (b:=m.nx) l ⟨[],env,reserve n m,[reserve n m]⟩ outs hv;have hss:∀p x,l[p]?=some x->Mj cf m.nx x (S p) (S (p+1)):=by rcases hch with⟨h,_⟩ | ⟨N,Dd,y,m',es,h,_⟩;exact λp x hp=>.inl (h p x hp);intro p x hp;rcases h.step p x hp with⟨_,h⟩ | ⟨_,_,h,_⟩;exact .inl h;exact .inr h
 obtain⟨ord,X,F,hll,hXl⟩:=Vf (cf:=cf) (b:=m.nx) (S:=S) hcl hin (by rw [hS0]) (by rw [hS0]) hss;have hget0:∀p,p<ord.length->∃x,l[p]?=some x∧X p=x:=λp hp=>⟨l[p]'(by omega),J7 (by omega),hXl p _ (J7 (by omega))⟩;have hb:m.lim<=m.nx:=hm.limn;have hen0:U7 ι (m.nm ι) slots (S 0).env a.tmps:=by rw [hS0];exact hen
 have hst0:Step P G ι m w ι (reserve n m) {w with drawn:=w.drawn+1}:=(Step.drew hm _).trans (yZ n (Step.drew hm (w.drawn+1)).rm);have hget:∀i,(Array.replicate ops.size false).getD i false=false:=λi=>by rw [Xd,adZ];split<;>rfl
 have hL0:∀p,Lp ord (Array.replicate ops.size false) p=false:=λp=>by unfold Lp;split;exact hget _;rfl
 rcases hch with⟨hlv,hout⟩ | ⟨N,Dd,y,m',es,hPan,hout⟩;have hlive:∀p,p<ord.length->DStep cf m.nx (X p) (S p) (S (p+1)):=λp hp=>by obtain⟨x,hx1,rfl⟩:=hget0 p hp;exact hlv p _ hx1
 have main:∀(fuel:Nat) (listed:Array Bool) (a':Act) (w':World) (ι':K4) (q:Nat),ko P G m.nx ops ord X S ι m w a listed a' w' ι' q->sO ops.size listed=fuel->
   wpAnyIn (FR r) 0 P .any ops Q fuel listed a' w':=by
  intro fuel;induction fuel with
  | zero=>
   intro listed a' w' ι' q D hleft;have hall:∀i,i<ops.size->listed.getD i false=true:=λi hi=>by
    cases hl:listed.getD i false with
    | true=>rfl
    | false=>have:i∈(List.range ops.size).filter λi=>!listed.getD i false:=afm.2 ⟨adY.2 hi,by rw [hl];rfl⟩;rw [abZ.1 hleft] at this;cases this
   have hL:∀p,p<ord.length->Lp ord listed p=true:=λp hp=>by rw [jB (J7 hp)];exact hall _ (F.lt _ (abX hp))
   refine⟨?_,?_⟩;unfold Region.ready;refine aii.2 λi hi=>?_;have hi:=adY.1 hi;have h1:listed.getD i true=true:=by have:=hall i hi;rw [Xd,aaG (by rw [D.len];exact hi)] at this ⊢;exact this
   simp [h1];have hq:=D.hq;have hfin:=F.lay_all (q:=q) (L:=Lp ord listed) (ord.length-q) (by omega) λk hk=>⟨hL _ (by omega),by
    cases he:aB (X (q+k)).2 with
    | false=>rfl
    | true=>have:=D.high (q+k) (by omega) he;rw [hL _ (by omega)] at this;cases this⟩
   rw [show q+(ord.length-q)=ord.length from by omega] at hfin;have hst:=D.lay F hb (ord.length-q) (by omega);have s:=D.st F hb hen0 hnt (ord.length-q) (by omega) ord.length (by omega);rw [hfin] at hst s;have henv:=s.env;rw [Vg F hL ord.length (J2 _)] at henv;refine hQ ⟨(S ord.length).env,(S ord.length).m,none,[]⟩ (by rw [hout,← hll];exact J3.2 rfl) rfl rfl ι' w' a' hst (henv.Qq (by rw [jR,D.sz]) λt=>?_) D.defs D.sz;by_cases hw:∃(i:Nat) (o:Oper),ops[i]?=some o∧o.dst=some t;obtain⟨i,o,ho,ht⟩:=hw;obtain⟨p,hp⟩:=aaS (F.all i (K9.1 ho).1);have hpl:=(J5.1 hp).1;rw [D.tw p i o t hp (hall i (K9.1 ho).1) ho ht,El F hnt hp ho ht ord.length hpl];simp [vm,hL p hpl];rw [D.tn t λi o _ ho ht=>hw ⟨i,o,ho,ht⟩,zh ord.length λr i o _ _ ho ht=>hw ⟨i,o,ho,ht⟩]
  | succ fuel ih=>
   intro listed a' w' ι' q D hleft;refine⟨λhnil=>?_,λi hi=>?_⟩
   ·
    exfalso;have hex:∃p,p<ord.length∧Lp ord listed p=false:=by have:((List.range ops.size).filter λi=>!listed.getD i false)≠[]:=λe=>(by unfold sO at hleft;rw [e] at hleft;cases hleft);obtain⟨i,hi⟩:=agp _ this;obtain⟨h1,h2⟩:=afm.1 hi;obtain⟨p,hp⟩:=aaS (F.all i (adY.1 h1));exact⟨p,(J5.1 hp).1,by rw [jB hp];simpa using h2⟩
    have hmin:∀N,(∃p,p<N∧p<ord.length∧Lp ord listed p=false)->∃p,p<ord.length∧Lp ord listed p=false∧∀q,q<p->Lp ord listed q=true:=by
     intro N;induction N with
     | zero=>rintro⟨p,h,_⟩;omega
     | succ N ihN=>
      rintro⟨p,h1,h2,h3⟩;by_cases hx:∃p,p<N∧p<ord.length∧Lp ord listed p=false;exact ihN hx;refine⟨p,h2,h3,λq hq=>?_⟩;cases hl:Lp ord listed q with
      | true=>rfl
      | false=>exact absurd ⟨q,by omega,by omega,hl⟩ hx
    obtain⟨p0,hp0,hp1⟩:=hex;obtain⟨p,h1,h2,h3⟩:=hmin (p0+1) ⟨p0,by omega,hp0,hp1⟩;have hp:=J7 h1;have hmem:ord[p]∈Region.ready .any ops listed:=by obtain⟨o,ho,_⟩:=F.inst p _ hp;refine mem_ready.2 ⟨?_,o,ho,λe he hbnd=>?_⟩;rw [jB hp] at h2;have hlt:ord[p]<listed.size:=(by rw [D.len];exact F.lt _ (abX h1));rw [Xd,aaG hlt] at h2 ⊢;exact h2;obtain⟨q',hq',hq2⟩:=F.edges p _ o hp ho e he hbnd;have:=h3 q' hq';rw [jB hq2] at this;exact this
    rw [hnil] at hmem;cases hmem
   obtain⟨hun,o,ho,hr⟩:=mem_ready.1 hi;have hlt:i<listed.size:=by rw [D.len];exact (K9.1 ho).1
   have hun:listed.getD i false=false:=by rw [Xd,aaG hlt] at hun ⊢;exact hun
   refine ko.op hcf F hb hen0 hnt D ho hun hr (λp hp=>hlive p (J5.1 hp).1) λa2 w2 ι2 q2 D2=>?_;refine ih _ a2 w2 ι2 q2 D2 ?_;have:=Aq D.len (by rw [← D.len];exact hlt) hun;omega
 refine main _ _ a _ ι 0 ⟨afN _,.inl rfl,λp hp=>by omega,λp _ _=>hL0 p,by rw [hS0];exact hst0,(λd i blk h=>by rw [hL0] at h;cases h),(λd d' i i' blk blk' _ h=>by rw [hL0] at h;cases h),
  (λd h=>by rw [hL0] at h;cases h),(λp hp=>by omega),(λp i o t _ h=>by rw [hget] at h;cases h),λt _=>rfl,rfl,rfl,(λi o h=>by rw [hget] at h;cases h),by simp⟩ ?_
 unfold sO;rw [afO.2 (λi _=>by rw [hget];rfl),aie];obtain⟨xN,eoN,hlN,hoN,hgN⟩:=hPan.at_;have hNlt:N<ord.length:=by have:=(J5.1 hlN).1;omega
 obtain⟨iN,hpN⟩:∃i,ord[N]?=some i:=⟨_,J7 hNlt⟩;have hiN:iN<ops.size:=F.lt _ (Y5 hpN);have hXN:=hXl N xN hlN;have hxN:(X N).2.op=.e eoN:=by rw [hXN];exact hoN
 have h1N:Jf (X N).2.guard (nu eoN) cf (S N).ls (S N).env (S N).m=some [⟨.mZ y,m'⟩]:=by rw [hXN];exact hgN
 have deadDep:∀p i,ord[p]?=some i->Dd p=true->p=N∨Ao ops i iN:=by
  intro p;induction p using Nat.strongRecOn with
  | _ p ihp=>
   intro i hp hd;have hpl:=(J5.1 hp).1;obtain⟨x,hx1,hx2⟩:=hget0 p hpl;rcases hPan.step p x hx1 with⟨h,_⟩ | ⟨hNp,_,_,hw⟩;rw [hd] at h;cases h;rcases hw with h | h | ⟨k,hk,q,hqp,hkq,hq⟩;exact .inl h;by_cases hpN':p=N;exact .inl hpN';obtain⟨eo,he⟩:=h;exact .inr (F.eff p i hp (by rw [hx2];simp [aB,he]) N iN (by omega) hpN);have hok:Mv ops ord X p i (.loc k):=by rcases hk with hk | ⟨wt,hk⟩;exact F.WQ p i hp _ (by rw [hx2];exact hk);exact F.opdg p i _ wt hp (by rw [hx2];exact hk)
   obtain⟨j,hj1,hj2,hj3⟩:=hok;have e:p-1-k=q:=by omega
   rw [e] at hj2;rcases ihp q hqp j hj2 hq with rfl | h;obtain rfl:=Y7 (hj2.symm.trans hpN);exact .inr hj3;exact .inr (hj3.trans h)
 have main:∀(fuel:Nat) (listed:Array Bool) (a':Act) (w':World) (ι':K4) (q:Nat),ko P G m.nx ops ord X S ι m w a listed a' w' ι' q->listed.getD iN false=false->sO ops.size listed=fuel->
   wpAnyIn (FR r) 0 P .any ops Q fuel listed a' w':=by
  intro fuel;induction fuel with
  | zero=>intro listed a' w' ι' q D hNl hleft;exfalso;have:iN∈(List.range ops.size).filter λi=>!listed.getD i false:=afm.2 ⟨adY.2 hiN,by rw [hNl];rfl⟩;rw [abZ.1 hleft] at this;cases this
  | succ fuel ih=>
   intro listed a' w' ι' q D hNl hleft;refine⟨λhnil=>?_,λi hi=>?_⟩
   ·
    exfalso;have hex:∃p,p<ord.length∧Lp ord listed p=false:=by have:((List.range ops.size).filter λi=>!listed.getD i false)≠[]:=λe=>(by unfold sO at hleft;rw [e] at hleft;cases hleft);obtain⟨i,hi⟩:=agp _ this;obtain⟨h1,h2⟩:=afm.1 hi;obtain⟨p,hp⟩:=aaS (F.all i (adY.1 h1));exact⟨p,(J5.1 hp).1,by rw [jB hp];simpa using h2⟩
    have hmin:∀N,(∃p,p<N∧p<ord.length∧Lp ord listed p=false)->∃p,p<ord.length∧Lp ord listed p=false∧∀q,q<p->Lp ord listed q=true:=by
     intro N;induction N with
     | zero=>rintro⟨p,h,_⟩;omega
     | succ N ihN=>
      rintro⟨p,h1,h2,h3⟩;by_cases hx:∃p,p<N∧p<ord.length∧Lp ord listed p=false;exact ihN hx;refine⟨p,h2,h3,λq hq=>?_⟩;cases hl:Lp ord listed q with
      | true=>rfl
      | false=>exact absurd ⟨q,by omega,by omega,hl⟩ hx
    obtain⟨p0,hp0,hp1⟩:=hex;obtain⟨p,h1,h2,h3⟩:=hmin (p0+1) ⟨p0,by omega,hp0,hp1⟩;have hp:=J7 h1;have hmem:ord[p]∈Region.ready .any ops listed:=by obtain⟨o,ho,_⟩:=F.inst p _ hp;refine mem_ready.2 ⟨?_,o,ho,λe he hbnd=>?_⟩;rw [jB hp] at h2;have hlt:ord[p]<listed.size:=(by rw [D.len];exact F.lt _ (abX h1));rw [Xd,aaG hlt] at h2 ⊢;exact h2;obtain⟨q',hq',hq2⟩:=F.edges p _ o hp ho e he hbnd;have:=h3 q' hq';rw [jB hq2] at this;exact this
    rw [hnil] at hmem;cases hmem
   obtain⟨hun,o,ho,hr⟩:=mem_ready.1 hi;have hlt:i<listed.size:=by rw [D.len];exact (K9.1 ho).1
   have hun:listed.getD i false=false:=by rw [Xd,aaG hlt] at hun ⊢;exact hun
   by_cases hiN':i=iN;subst hiN';have hdead:∀p,N<p->Lp ord listed p=true->Dd p=false:=λp hp hL=>by
    cases hd:Dd p with
    | false=>rfl
    | true=>exfalso;have hpl:=uN hL;have hpp:=J7 hpl;rcases deadDep p _ hpp hd with h | h;omega;rw [jB hpp] at hL;have:=h.listed D.closed λo' ho' e he hbnd=>D.closed _ o' hL ho' e he hbnd;rw [hNl] at this;cases this
   refine ko.mZ hcf F hb hen0 hnt D hpN ho hun hr hxN h1N (λp hp hpl hL=>?_) λι2 w2 hst hlt2 henv2=>?_;obtain⟨x,hx1,rfl⟩:=hget0 p hpl;exact hPan.na p _ hp hx1 (hdead p hp hL);have hmem:=hPan.envs (Lp ord listed) hdead;have hxe:∀k,MC ord X S listed N k=Cb (l.drop (N+1)) (λk=>(S (N+1+k+1)).ls.headD .undef) (λk=>Lp ord listed (N+1+k)) (S N).env k:=by
    intro k;induction k with
    | zero=>rfl
    | succ k ihk=>
     rw [MC,Cb,afF,ihk];cases hlk:l[N+1+k]? with
     | some x=>rw [hXl _ _ hlk];rfl
     | none=>
      have:Lp ord listed (N+1+k)=false:=by
       cases hL:Lp ord listed (N+1+k) with
       | false=>rfl
       | true=>have h1:=uN hL;have h2:=List.getElem?_eq_none_iff.1 hlk;omega
      rw [this,if_neg (by decide)]
   rw [hxe,← hll] at henv2;exact hQp ⟨_,m',some y,[]⟩ (by rw [hout,Mr];exact afQ hmem) y rfl rfl ι2 w2 a' hst hlt2 henv2 D.defs D.sz;have hdep:∀j,Ao ops i j->listed.getD j false=true:=λj hj=>hj.listed D.closed λo' ho' e he hbnd=>by rw [ho] at ho';cases ho';exact hr e he hbnd
   refine ko.op hcf F hb hen0 hnt D ho hun hr (λp hp=>?_) λa2 w2 ι2 q2 D2=>?_;have hpl:=(J5.1 hp).1;obtain⟨x,hx1,rfl⟩:=hget0 p hpl;rcases hPan.step p _ hx1 with⟨_,h⟩ | ⟨hNp,hDd,_,_⟩;exact h;exfalso;rcases deadDep p i hp hDd with rfl | h;exact hiN' (Y7 (hp.symm.trans hpN));have:=hdep _ h;rw [hNl] at this;cases this;refine ih _ a2 w2 ι2 q2 D2 ?_ ?_;rw [ak _ _ _ hlt,if_neg (aiA hiN')];exact hNl;have:=Aq D.len (by rw [← D.len];exact hlt) hun;omega
 refine main _ _ a _ ι 0 ⟨afN _,.inl rfl,λp hp=>by omega,λp _ _=>hL0 p,by rw [hS0];exact hst0,(λd i blk h=>by rw [hL0] at h;cases h),(λd d' i i' blk blk' _ h=>by rw [hL0] at h;cases h),
  (λd h=>by rw [hL0] at h;cases h),(λp hp=>by omega),(λp i o t _ h=>by rw [hget] at h;cases h),λt _=>rfl,rfl,rfl,(λi o h=>by rw [hget] at h;cases h),by simp⟩ (hget _) ?_
 unfold sO;rw [afO.2 (λi _=>by rw [hget];rfl),aie]
end
section
variable {F:Fence}{n:Nat}{P:Program}
theorem OW {o:Oper}{a:Act}{w:World}{K K':Act->World->Prop}{Q Q':Exit->Act->World->Prop}(hK:∀a w,K a w->K' a w)(hQ:∀c a w,Q (.panic c) a w->Q' (.panic c) a w)(hLO:LetsOut Q->LetsOut Q')
  (hh:o.wpIn F n P a w K Q):o.wpIn F n P a w K' Q':=by
 unfold Oper.wpIn at *;refine⟨hh.1,?_⟩;have hh:=hh.2;generalize (o.semAt F.round a.eval).run P w=r at *;cases r with
 | ok x w'=>
  cases x<;>simp only [Oper.uponIn] at hh ⊢ <;>
   first
    | exact hK _ _ hh
    | exact⟨hh.1,aiM hh.2 (λe w'' he=>by cases e<;>first | exact hK _ _ he | exact hQ _ _ _ he | exact hLO he)⟩
    | exact⟨hh.1,RowsIn.mono hh.2 (λ_ _ he=>hK _ _ he)⟩
    | exact⟨hh.1,RoundIn.mono hh.2 (λe w'' he=>by cases e<;>first | exact hK _ _ he | exact hQ _ _ _ he | exact hLO he)⟩
 | halt x w'=>cases x<;>simp only [Oper.uponIn] at hh ⊢ <;> first | exact hh | exact hQ _ _ _ hh
theorem least {p:Nat->Prop}(h:∃j,p j):∃j,p j∧∀q,q<j->¬ p q:=by
 obtain⟨j,hj⟩:=h;induction j using Nat.strongRecOn with
 | _ j ih=>by_cases hx:∃q,q<j∧p q;obtain⟨q,h1,h2⟩:=hx;exact ih q h1 h2;exact⟨j,hj,λq hq hp=>hx ⟨q,hq,hp⟩⟩
theorem En {ops:Array Oper}{listed:Array Bool}(hcl:jQ ops listed)(hs:listed.size=ops.size){i:Nat}{o:Oper}(ho:ops[i]?=some o)
  (hr:∀e∈o.after,Region.binds .any e=true->listed.getD e.on false=true):jQ ops (listed.setIfInBounds i true):=by
 have hi:i<listed.size:=by rw [hs];exact (K9.1 ho).1
 intro j oj hj hoj e he hb;rw [ak _ _ _ hi] at hj ⊢;by_cases hji:j=i;subst hji;rw [ho] at hoj;cases hoj;rw [hr e he hb];split<;>rfl
 rw [if_neg hji] at hj;rw [hcl j oj hj hoj e he hb];split<;>rfl
theorem zk {A:Array Bool}{i:Nat}(hi:i<A.size):A.getD i true=A.getD i false:=by rw [Xd,Xd,aaG hi];rfl
theorem ME {o:Oper}(h:o.guard=none)(y:Nat->Option Bool):Region.wanted o y=true:=by unfold Region.wanted;rw [h]
theorem Gg {ops:Array Oper}{k:Nat}(hk:k<=ops.size)(hg:∀(i:Nat)(o:Oper),ops[i]?=some o->o.guard=none)
  (hdown:∀(i:Nat) (o:Oper),ops[i]?=some o->∀e∈o.after,Region.binds .any e=true->e.on<i)
  (hdep:∀i,k<=i->i<ops.size->∀j,j<k->Ao ops i j) {Q Q1:Exit->Act->World->Prop} (hQ:∀c a w,Q1 (.panic c) a w->Q (.panic c) a w) (hLO:LetsOut Q1->LetsOut Q)
  (hall:∀a w,Q1 .normal a w->∀listed:Array Bool,listed.size=ops.size->jQ ops listed->(∀j,listed.getD j false=decide (j<k))->wpAnyIn F n P .any ops Q (ops.size-k) listed a w):
  ∀(fuel:Nat) (listed lp:Array Bool) (a:Act) (w:World),listed.size=ops.size->lp.size=k->(∀j,listed.getD j false=lp.getD j false)->jQ ops listed->sO k lp=fuel->
   wpAnyIn F n P .any (ops.extract 0 k) Q1 fuel lp a w->wpAnyIn F n P .any ops Q (fuel+(ops.size-k)) listed a w:=by
 intro fuel;induction fuel with
 | zero=>
  intro listed lp a w hs hp he hcl hl h;rw [aav];refine hall a w h.2 listed hs hcl λj=>?_;rw [he j];by_cases hj:j<k;have:lp.getD j false=true:=by
   cases hx:lp.getD j false with
   | true=>rfl
   | false=>have:j∈(List.range k).filter λi=>!lp.getD i false:=afm.2 ⟨adY.2 hj,by rw [hx];rfl⟩;rw [abZ.1 hl] at this;cases this
  rw [this];simp [hj];rw [Xd,aif (by omega)];simp [hj]
 | succ fuel ih=>
  intro listed lp a w hs hp he hcl hl h;rw [show fuel+1+(ops.size-k)=(fuel+(ops.size-k))+1 from by omega];have hex:∃j,j<k∧lp.getD j false=false:=by
   have:((List.range k).filter λi=>!lp.getD i false)≠[]:=λe=>by unfold sO at hl;rw [e] at hl;cases hl
   obtain⟨i,hi⟩:=agp _ this;obtain⟨h1,h2⟩:=afm.1 hi;exact⟨i,adY.1 h1,by simpa using h2⟩
  refine⟨λhnil=>?_,λi hi=>?_⟩;exfalso;obtain⟨j,⟨hjk,hjl⟩,hlt⟩:=least hex;have ho:=aaG (xs:=ops) (i:=j) (by omega);have:j∈Region.ready .any ops listed:=mem_ready.2 ⟨by rw [zk (by omega),he,hjl],_,ho,λe hm hb=>by
   have hlt':=hdown j _ ho e hm hb;cases hx:listed.getD e.on false with
   | true=>rfl
   | false=>exact absurd ⟨by omega,by rw [← he];exact hx⟩ (hlt e.on hlt')⟩
  rw [hnil] at this;cases this;obtain⟨hun,o,ho,hr⟩:=mem_ready.1 hi;have hio:i<ops.size:=(K9.1 ho).1;have hik:i<k:=by refine Nat.lt_of_not_le λhle=>?_;obtain⟨j,hjk,hjl⟩:=hex;have:=(hdep i hle hio j hjk).listed hcl (λo' ho'=>by rw [ho] at ho';cases ho';exact hr);rw [he j,hjl] at this;cases this
  have hop:(ops.extract 0 k)[i]?=some o:=by rw [Array.getElem?_extract,if_pos (by omega),aav];exact ho
  have hunf:listed.getD i false=false:=by rw [← zk (by omega)];exact hun
  have h1:=h.2 i (mem_ready.2 ⟨by rw [zk (by omega),← he];exact hunf,o,hop,λe hm hb=>by rw [← he];exact hr e hm hb⟩);unfold wpOpIn at h1 ⊢;rw [hop] at h1;rw [ho];simp only [ME (hg i o ho),if_true] at h1 ⊢;refine OW (λa w hK=>ih _ _ a w (by simpa using hs) (by simpa using hp) (λj=>?_) (En hcl hs ho hr) ?_ hK) hQ hLO h1;rw [ak _ _ _ (by omega),ak _ _ _ (by omega),he j];have:=Aq (n:=k) (listed:=lp) hp hik (by rw [← he];exact hunf);omega
end
theorem Ar {x:P6}(h:Lh x=true)(ls:List j3)(env:T j3):F9 x ls env=F9 x [] env:=by cases x<;>first | rfl | cases h
theorem T.uO {α:Type}:∀(t:T α) (i j:Nat) {x y:α},t.get i=some x->t.get j=some y->i≠j->∀a b:α,(t.put i a).put j b=(t.put j b).put i a
 | .e,i,j,x,y,h,_,_,_,_=>by cases h
 | .nd l v r,i,j,x,y,hi,hj,hne,a,b=>by
  have hp:∀(l r:T α) (v:α) (k:Nat) (c:α),(T.nd l v r).put (k+1) c=(Nat.rec (.nd (l.put (Nat.div k 2) c) v r) (λ_ _=>.nd l v (r.put (Nat.div k 2) c)) (Nat.mod k 2):T α):=λ_ _ _ _ _=>rfl;have hg:∀(k:Nat),(T.nd l v r).get (k+1)=(Nat.rec (l.get (Nat.div k 2)) (λ_ _=>r.get (Nat.div k 2)) (Nat.mod k 2):Option α):=λ_=>rfl;have hm:∀k:Nat,Nat.mod k 2=0∨Nat.mod k 2=1:=λk=>by have:Nat.mod k 2<2:=ait _ (by omega);omega
  have h0:∀(l r:T α) (v c:α),(T.nd l v r).put 0 c=.nd l c r:=λ_ _ _ _=>rfl;have hd:∀k q:Nat,Nat.mod k 2=Nat.mod q 2->k≠q->Nat.div k 2≠Nat.div q 2:=λk q h1 h2=>by have e1:Nat.mod k 2=k%2:=rfl;have e2:Nat.mod q 2=q%2:=rfl;have e3:Nat.div k 2=k / 2:=rfl;have e4:Nat.div q 2=q / 2:=rfl;omega
  cases i with
  | zero=>
   cases j with
   | zero=>exact absurd rfl hne
   | succ q=>rw [h0,hp,hp];rcases hm q with e | e<;>rw [e]<;>rfl
  | succ k=>
   cases j with
   | zero=>rw [h0,hp,hp];rcases hm k with e | e<;>rw [e]<;>rfl
   | succ q=>
    rw [hg] at hi hj;rw [hp,hp];have hne':k≠q:=λe=>hne (by rw [e]);rcases hm k with e | e<;>rcases hm q with e' | e'<;>rw [e] at hi ⊢ <;> rw [e'] at hj ⊢
    show (T.nd (l.put (Nat.div k 2) a) v r).put (q+1) b=(T.nd (l.put (Nat.div q 2) b) v r).put (k+1) a;rw [hp,hp,e,e'];show T.nd _ _ _=T.nd _ _ _;rw [T.uO l _ _ hi hj (hd k q (by rw [e,e']) hne') a b];show (T.nd (l.put (Nat.div k 2) a) v r).put (q+1) b=(T.nd l v (r.put (Nat.div q 2) b)).put (k+1) a;rw [hp,hp,e,e'];rfl;show (T.nd l v (r.put (Nat.div k 2) a)).put (q+1) b=(T.nd (l.put (Nat.div q 2) b) v r).put (k+1) a;rw [hp,hp,e,e'];rfl;show (T.nd l v (r.put (Nat.div k 2) a)).put (q+1) b=(T.nd l v (r.put (Nat.div q 2) b)).put (k+1) a;rw [hp,hp,e,e'];show T.nd _ _ _=T.nd _ _ _;rw [T.uO r _ _ hi hj (hd k q (by rw [e,e']) hne') a b]
theorem Au {sz:Nat}{x y:OF}{cf:F4}{ls:List j3}{env:T j3}{m:Mem}{outs:List VM}(h:I6 sz x y cf ls env m=some outs):
  ∃id off rs n rows rows',x ls env=.ptr id off∧Nat.beq (len' (y ls env).cells) sz=true∧Nat.blt id m.lim=false∧O0 (y ls env).cells=true∧m.get id=some (.cells rs n rows)∧
   aD rs n rows off (y ls env).cells=some rows'∧outs=[⟨.undef,m.set id (.cells rs n rows')⟩]:=by
 obtain⟨id,off,h1,h⟩:=dV h;obtain⟨h2,h⟩:=D7 h;obtain⟨h3,h⟩:=jI h;obtain⟨h4,h⟩:=D7 h;obtain⟨rs,n,rows,h5,h⟩:=cZ h;obtain⟨rows',h6,h⟩:=C8 h;cases h;exact⟨id,off,rs,n,rows,rows',h1,h2,h3,h4,h5,h6,rfl⟩
theorem MF {sz:Nat}{x y:OF}{cf:F4}{ls:List j3}{env:T j3}{m:Mem}{id off rs n:Nat}{rows rows':T (List j3)}(h1:x ls env=.ptr id off)(h2:Nat.beq (len' (y ls env).cells) sz=true)
  (h3:Nat.blt id m.lim=false) (h4:O0 (y ls env).cells=true) (h5:m.get id=some (.cells rs n rows)) (h6:aD rs n rows off (y ls env).cells=some rows'):
  I6 sz x y cf ls env m=some [⟨.undef,m.set id (.cells rs n rows')⟩]:=by
 show gK (x ls env) _=_;rw [h1];show bi (Nat.beq _ _) _ _=_;rw [h2];show bi (Nat.blt id m.lim) _ _=_;rw [h3];show bi (O0 _) _ _=_;rw [h4];show Q9 _ _=_;rw [h5];show ob _ _=_;rw [h6];rfl
theorem OX {sz sz':Nat}{x y x' y':OF}{cf:F4}{ls ls':List j3}{env:T j3}{m:Mem}{id off id' off':Nat}(hx:x ls env=.ptr id off)(hx':x' ls' env=.ptr id' off')(hne:id'≠id)
  {l1 l2:List VM} (h1:I6 sz x y cf ls env m=some l1) {m1:Mem} (e1:l1=[⟨.undef,m1⟩]) (h2:I6 sz' x' y' cf ls' env m1=some l2):
  ∃mc m2,l2=[⟨.undef,m2⟩]∧I6 sz' x' y' cf ls' env m=some [⟨.undef,mc⟩]∧I6 sz x y cf ls env mc=some [⟨.undef,m2⟩]:=by
 obtain⟨i1,o1,rs,n,rows,rows',a1,a2,a3,a4,a5,a6,rfl⟩:=Au h1;cases e1;rw [hx] at a1;cases a1;obtain⟨i2,o2,rs2,n2,rows2,rows2',b1,b2,b3,b4,b5,b6,rfl⟩:=Au h2;rw [hx'] at b1;cases b1;rw [Mem.xP a5,if_neg hne] at b5;refine⟨_,_,rfl,MF hx' b2 b3 b4 b5 b6,?_⟩;have:=MF (m:=m.set id' (.cells rs2 n2 rows2')) (cf:=cf) hx a2 a3 a4 (by rw [Mem.xP b5,if_neg (aiA hne)];exact a5) a6;rw [this];have e:(m.set id' (.cells rs2 n2 rows2')).set id (.cells rs n rows')=(m.set id (.cells rs n rows')).set id' (.cells rs2 n2 rows2'):=by unfold Mem.set;rw [T.uO m.t id' id b5 a5 hne]
 rw [e]
section
variable {P:Program}{G:Mem}{ι:K4}{m:Mem}{w:World}{slots:List Nat}{done:List (Option Nat)}{ls:List j3}{env:T j3}{a:Act}{ops:Array Oper}{Q:Exit->Act->World->Prop}
theorem pQ {r:Option Nat}{cf:F4}(hcf:mU P G cf)(s:St P ι (m.nm ι) slots done ls env a.tmps)(hm:RM P G ι m w.heap){i:Nat}{o:Oper}(ho:ops[i]?=some o)(hg:o.guard=none)
  {v:j3} {m1:Mem} (hv:Qj cf (jZ P slots done o.op) ls env m=some [⟨v,m1⟩]) (hpan:∀x,v≠.mZ x) {K:Act->World->Prop}
  (hK:∀ι' w',Step P G ι m w ι' m1 w'->v.lt (m1.nm ι')->K (a.put o.dst (o8 ι' v)) w'):wpOpIn (FR r) 0 P ops Q i K a w:=by
 unfold wpOpIn;rw [ho];refine Ql (g:=none) hcf s hm (by rw [hg];rfl) (outs:=[⟨v,m1⟩]) hv ?_ ?_;intro x hx ι' w' h1 h2;obtain rfl:=J3.1 hx;exact hK ι' w' h1 h2;intro x hx y ι' w' h;obtain rfl:=J3.1 hx;exact absurd h (hpan y)
theorem St.stepped {ι':K4}{m':Mem}{w':World}{tmps:Array Value}(s:St P ι (m.nm ι) slots done ls env tmps)(h:Step P G ι m w ι' m' w'):St P ι' (m'.nm ι') slots done ls env tmps:=
 St.mono (n:=m.nm ι) s h.ext (Mem.ah h.has h.ext)
theorem qI (a:Act)(v:Value):a.put none v=a:=rfl
theorem OY {r:Option Nat}{cf:F4}(hcf:mU P G cf){nt:Nat}(h3:3<=ops.size){po:TH}{s s':Nat}{v a' v':P6}{d1:Option Nat}
  (hx:pz P slots [] ops (ops.size-3)=some (⟨.p po,none,none⟩,d1)) (hy:pz P slots [(ops[ops.size-3]?).bind (·.dst)] ops (ops.size-2)=some (⟨.e (.store s (.loc 0) v),none,none⟩,none))
  (hz:pz P slots [] ops (ops.size-1)=some (⟨.e (.store s' a' v'),none,none⟩,none)) (ha':Lh a'=true) (hv':Lh v'=true)
  (hin:∀(i:Nat) (o:Oper) (t:Tmp),ops[i]?=some o->o.dst=some t->t<nt) (hg:∀(i:Nat) (o:Oper),ops[i]?=some o->o.guard=none)
  (hdown:∀(i:Nat) (o:Oper),ops[i]?=some o->∀e∈o.after,Region.binds .any e=true->e.on<i) (hyx:Ao ops (ops.size-2) (ops.size-3))
  {es:List EM} (hm:RM P G ι m w.heap) (hen:U7 ι (m.nm ι) slots env a.tmps) (hnt:nt<=a.tmps.size)
  (hv:bC [⟨.p po,none,none⟩,⟨.e (.store s (.loc 0) v),none,none⟩,⟨.e (.storeAp s' a' v' (.loc 1)),none,none⟩] cf [] env m=some es)
  (hQ:∀e∈es,e.px=none->e.mks=[]->∀ι' w' a',Step P G ι m w ι' e.m w'->U7 ι' (e.m.nm ι') slots e.env a'.tmps->a'.defers=a.defers->a'.tmps.size=a.tmps.size->Q .normal a' w')
  {listed:Array Bool} (hs:listed.size=ops.size) (hcl:jQ ops listed) (hl:∀j,listed.getD j false=decide (j<ops.size-3)):wpAnyIn (FR r) 0 P .any ops Q 3 listed a w:=by
 obtain⟨l1,h1,k1⟩:=yV (o:=.p po) (d:=none) (g:=none) (k:=bC [⟨.e (.store s (.loc 0) v),none,none⟩,⟨.e (.storeAp s' a' v' (.loc 1)),none,none⟩]) hv;obtain⟨x,hp,h1⟩:=C8 h1;cases h1;obtain⟨os1,hk1,hs1⟩:=k1 _ (J3.2 rfl);have hk1:bC [⟨.e (.store s (.loc 0) v),none,none⟩,⟨.e (.storeAp s' a' v' (.loc 1)),none,none⟩] cf [x] env m=some os1:=hk1;obtain⟨l2,h2,k2⟩:=yV (o:=.e (.store s (.loc 0) v)) (d:=none) (g:=none) (k:=bC [⟨.e (.storeAp s' a' v' (.loc 1)),none,none⟩]) hk1;have h2:I6 s (F9 (.loc 0)) (F9 v) cf [x] env m=some l2:=h2;obtain⟨i1,o1,rs,n,rows,rows',a1,_,_,_,a5,_,e2⟩:=Au h2;obtain⟨os2,hk2,hs2⟩:=k2 _ (by rw [e2];exact J3.2 rfl);generalize hm1:m.set i1 (.cells rs n rows')=m1 at e2 hk2;have hk2:bC [⟨.e (.storeAp s' a' v' (.loc 1)),none,none⟩] cf [.undef,x] env m1=some os2:=hk2;obtain⟨l3,h3',k3⟩:=yV (o:=.e (.storeAp s' a' v' (.loc 1))) (d:=none) (g:=none) (k:=r9) hk2;have h3':tJ s' (F9 a') (F9 v') (F9 (.loc 1)) cf [.undef,x] env m1=some l3:=h3';obtain⟨i2,o2,b1,h3a⟩:=dV h3';obtain⟨i1',o1',b2,h3b⟩:=dV h3a;obtain⟨b3,h3c⟩:=jI h3b;have ex:x=.ptr i1 o1:=a1;have ex':x=.ptr i1' o1':=b2;rw [ex] at ex';cases ex';have hne:i2≠i1:=λe=>by rw [e] at b3;simp [ac0] at b3
 have b1':F9 a' [] env=.ptr i2 o2:=by rw [← Ar ha' [.undef,x] env];exact b1
 have h3'':I6 s' (F9 a') (F9 v') cf [] env m1=some l3:=by have e4:I6 s' (F9 a') (F9 v') cf [.undef,x] env m1=some l3:=h3c;rw [← e4];simp only [I6,Ar ha' [.undef,x] env,Ar hv' [.undef,x] env]
 obtain⟨mc,m2,e3,hc,hb⟩:=OX (x:=F9 (.loc 0)) (y:=F9 v) (ls:=[x]) (ls':=[]) a1 b1' hne h2 e2 h3'';obtain⟨os3,hk3,hs3⟩:=k3 ⟨.undef,m2⟩ (by rw [e3];exact J3.2 rfl);have hk3:some [(⟨env,m2,none,[]⟩:EM)]=some os3:=hk3;cases hk3;have hmem:(⟨env,m2,none,[]⟩:EM)∈es:=hs1 _ (hs2 _ (hs3 _ (J3.2 rfl)));obtain⟨oA,hA,rfl,hA2,hA3,_⟩:=kQ hx;obtain⟨oB,hB,hBd,hB2,_,_⟩:=kQ hy;obtain⟨oC,hC,hCd,hC2,_,_⟩:=kQ hz;have hA2:.p po=jZ P slots [] oA.op:=hA2;have hB2:.e (.store s (.loc 0) v)=jZ P slots [oA.dst] oB.op:=by rw [hA] at hB2;exact hB2
 have hC2:.e (.store s' a' v')=jZ P slots [] oC.op:=hC2;have hA3:none=FM slots oA.dst:=hA3;have npan:∀y,x≠.mZ y:=λy e=>by rw [ex] at e;cases e
 have rdy:∀(L:Array Bool) (i:Nat) (o:Oper),L.size=ops.size->ops[i]?=some o->L.getD i false=false->(∀j,j<i->L.getD j false=true)->i∈Region.ready .any ops L:=λL i o hL ho hun hall=>mem_ready.2 ⟨by rw [zk (by rw [hL];exact (K9.1 ho).1)];exact hun,o,ho,λe he hb=>hall _ (hdown i o ho e he hb)⟩;have out:∀(L:Array Bool) (i:Nat),L.size=ops.size->i∈Region.ready .any ops L->i<ops.size∧L.getD i false=false∧∀o,ops[i]?=some o->∀e∈o.after,Region.binds .any e=true->L.getD e.on false=true:=λL i hL hi=>by obtain⟨h1,o,ho,h2⟩:=mem_ready.1 hi;have hlt:=(K9.1 ho).1;exact⟨hlt,by rw [← zk (by omega)];exact h1,λo' ho'=>by rw [ho] at ho';cases ho';exact h2⟩
 have nB:∀L:Array Bool,L.size=ops.size->jQ ops L->L.getD (ops.size-3) false=false->ops.size-2∉Region.ready .any ops L:=λL hL hcL hun hi=>by have:=hyx.listed hcL (out L _ hL hi).2.2;rw [hun] at this;cases this
 have rC:∀(L:Array Bool),L.size=ops.size->jQ ops L->∀i,i∈Region.ready .any ops L->jQ ops (L.setIfInBounds i true):=λL hL hcL i hi=>by obtain⟨_,o,ho,h2⟩:=mem_ready.1 hi;exact En hcL hL ho h2
 have lA:∀j,(listed.setIfInBounds (ops.size-3) true).getD j false=decide (j<ops.size-2):=λj=>by rw [ak _ _ _ (by omega),hl];by_cases hj:j=ops.size-3;rw [if_pos hj,decide_eq_true (by omega)];rw [if_neg hj];exact decide_eq_decide.2 (by omega)
 have lC:∀j,(listed.setIfInBounds (ops.size-1) true).getD j false=decide (j<ops.size-3∨j=ops.size-1):=λj=>by rw [ak _ _ _ (by omega),hl];by_cases hj:j=ops.size-1;rw [if_pos hj,decide_eq_true (.inr hj)];rw [if_neg hj];exact decide_eq_decide.2 (by omega)
 have lAB:∀j,((listed.setIfInBounds (ops.size-3) true).setIfInBounds (ops.size-2) true).getD j false=decide (j<ops.size-1):=λj=>by rw [ak _ _ _ (by simp;omega),lA];by_cases hj:j=ops.size-2;rw [if_pos hj,decide_eq_true (by omega)];rw [if_neg hj];exact decide_eq_decide.2 (by omega)
 have lAC:∀j,((listed.setIfInBounds (ops.size-3) true).setIfInBounds (ops.size-1) true).getD j false=decide (j<ops.size-2∨j=ops.size-1):=λj=>by rw [ak _ _ _ (by simp;omega),lA];by_cases hj:j=ops.size-1;rw [if_pos hj,decide_eq_true (.inr hj)];rw [if_neg hj];exact decide_eq_decide.2 (by omega)
 have lCA:∀j,((listed.setIfInBounds (ops.size-1) true).setIfInBounds (ops.size-3) true).getD j false=decide (j<ops.size-2∨j=ops.size-1):=λj=>by rw [ak _ _ _ (by simp;omega),lC];by_cases hj:j=ops.size-3;rw [if_pos hj,decide_eq_true (.inl (by omega))];rw [if_neg hj];exact decide_eq_decide.2 (by omega)
 have fin:∀(L:Array Bool) (b:Act) (w':World) (ι':K4),(∀j,j<ops.size->L.getD j false=true)->L.size=ops.size->Step P G ι m w ι' m2 w'->U7 ι' (m2.nm ι') slots env b.tmps->b.defers=a.defers->b.tmps.size=a.tmps.size->
   wpAnyIn (FR r) 0 P .any ops Q 0 L b w':=λL b w' ι' hall hL hst he hd hsz=>by
  refine⟨List.eq_nil_iff_forall_not_mem.2 λi hi=>?_,hQ _ hmem rfl rfl ι' w' b hst he hd hsz⟩;obtain⟨h1,h2,_⟩:=out L i hL hi;rw [hall i h1] at h2;cases h2
 have hBlt:ops.size-2<ops.size:=by omega
 have hevA:∀M:Mem,Qj cf (jZ P slots [] oA.op) [] env M=some [⟨x,M⟩]:=λM=>by rw [← hA2];show ob (nk po [] env) _=_;rw [hp];rfl
 have putA:∀(ι':K4) (M:Mem) (b:Act),nt<=b.tmps.size->U7 ι' (M.nm ι') slots env b.tmps->∀w':World,RM P G ι' M w'.heap->x.lt (M.nm ι')->St P ι' (M.nm ι') slots [oA.dst] [x] env (b.put oA.dst (o8 ι' x)).tmps:=λι' M b hb he w' hr hlt=>by have s0:St P ι' (M.nm ι') slots [] [] env b.tmps:=St.start hr he;have:=s0.put oA.dst (λt ht=>Xb (hin _ _ t hA ht) hb) hlt;rw [← hA3] at this;rw [(iA b oA.dst (o8 ι' x)).1];exact this
 refine⟨λhnil=>?_,λi hi=>?_⟩;have:=rdy listed (ops.size-3) oA hs hA (by rw [hl];simp) (λj hj=>by rw [hl];simp;omega);rw [hnil] at this;cases this;have hi':=out listed i hs hi;have hi2:¬ i<ops.size-3:=λh=>by have:=hi'.2.1;rw [hl,decide_eq_true h] at this;cases this
 have hcases:i=ops.size-3∨i=ops.size-2∨i=ops.size-1:=by have:=hi'.1;omega
 rcases hcases with rfl | rfl | rfl
 ·
  have hclA:=rC listed hs hcl _ hi;refine pQ hcf (St.start hm hen) hm hA (hg _ _ hA) (hevA m) npan λι1 w1 st1 hlt=>?_;have sA:=putA ι1 m a hnt (st1.env hen) w1 st1.rm hlt;refine⟨λhnil=>?_,λi hi=>?_⟩;have:=rdy (listed.setIfInBounds (ops.size-3) true) (ops.size-2) oB (by simpa using hs) hB (by rw [lA];simp) (λj hj=>by rw [lA];simp;omega);rw [hnil] at this;cases this;have hi':=out _ i (by simpa using hs) hi;have hi2:¬ i<ops.size-2:=λh=>by have:=hi'.2.1;rw [lA,decide_eq_true h] at this;cases this
  have hcases:i=ops.size-2∨i=ops.size-1:=by have:=hi'.1;omega
  rcases hcases with rfl | rfl;refine pQ hcf sA st1.rm hB (hg _ _ hB) (v:=.undef) (m1:=m1) (by rw [← hB2];exact h2.trans (by rw [e2])) (by simp) λι2 w2 st2 _=>?_;rw [← hBd,qI];have sB:=sA.stepped st2;refine⟨λhnil=>?_,λi hi=>?_⟩;have:=rdy ((listed.setIfInBounds (ops.size-3) true).setIfInBounds (ops.size-2) true) (ops.size-1) oC (by simpa using hs) hC (by rw [lAB];simp) (λj hj=>by rw [lAB];simp;omega);rw [hnil] at this;cases this;have hi':=out _ i (by simpa using hs) hi;have hi2:¬ i<ops.size-1:=λh=>by have:=hi'.2.1;rw [lAB,decide_eq_true h] at this;cases this
  obtain rfl:i=ops.size-1:=by have:=hi'.1;omega
  refine pQ hcf (St.start st2.rm sB.env) st2.rm hC (hg _ _ hC) (v:=.undef) (m1:=m2) (by rw [← hC2];exact h3''.trans (by rw [e3])) (by simp) λι3 w3 st3 _=>?_;rw [← hCd,qI];exact fin _ _ w3 ι3 (λj hj=>by rw [ak _ _ _ (by simp;omega),lAB];by_cases h:j=ops.size-1<;>simp [h];omega) (by simpa using hs) (st1.trans (st2.trans st3)) (st3.env sB.env) (iA _ _ _).2 (bJ _ _ _)
  refine pQ hcf (St.start st1.rm sA.env) st1.rm hC (hg _ _ hC) (v:=.undef) (m1:=mc) (by rw [← hC2];exact hc) (by simp) λι2 w2 st2 _=>?_;rw [← hCd,qI];have sC:=sA.stepped st2;refine⟨λhnil=>?_,λi hi=>?_⟩;have:=rdy ((listed.setIfInBounds (ops.size-3) true).setIfInBounds (ops.size-1) true) (ops.size-2) oB (by simpa using hs) hB (by rw [lAC];simp;omega) (λj hj=>by rw [lAC];simp;omega);rw [hnil] at this;cases this;have hi':=out _ i (by simpa using hs) hi;have hi2:¬ (i<ops.size-2∨i=ops.size-1):=λh=>by have:=hi'.2.1;rw [lAC,decide_eq_true h] at this;cases this
  obtain rfl:i=ops.size-2:=by have:=hi'.1;omega
  refine pQ hcf sC st2.rm hB (hg _ _ hB) (v:=.undef) (m1:=m2) (by rw [← hB2];exact hb) (by simp) λι3 w3 st3 _=>?_;rw [← hBd,qI];exact fin _ _ w3 ι3 (λj hj=>by rw [ak _ _ _ (by simp;omega),lAC];by_cases h:j=ops.size-2<;>simp [h];omega) (by simpa using hs) (st1.trans (st2.trans st3)) (st3.env sC.env) (iA _ _ _).2 (bJ _ _ _)
 exact absurd hi (nB listed hs hcl (by rw [hl];simp))
 ·
  refine pQ hcf (St.start hm hen) hm hC (hg _ _ hC) (v:=.undef) (m1:=mc) (by rw [← hC2];exact hc) (by simp) λι1 w1 st1 _=>?_;rw [← hCd,qI];have hclC:=rC listed hs hcl _ hi;have hen1:=st1.env hen;refine⟨λhnil=>?_,λi hi=>?_⟩;have:=rdy (listed.setIfInBounds (ops.size-1) true) (ops.size-3) oA (by simpa using hs) hA (by rw [lC];simp;omega) (λj hj=>by rw [lC];simp;omega);rw [hnil] at this;cases this;have hi':=out _ i (by simpa using hs) hi;have hi2:¬ (i<ops.size-3∨i=ops.size-1):=λh=>by have:=hi'.2.1;rw [lC,decide_eq_true h] at this;cases this
  have hcases:i=ops.size-3∨i=ops.size-2:=by have:=hi'.1;omega
  rcases hcases with rfl | rfl;refine pQ hcf (St.start st1.rm hen1) st1.rm hA (hg _ _ hA) (hevA mc) npan λι2 w2 st2 hlt=>?_;have sA:=putA ι2 mc a hnt (st2.env hen1) w2 st2.rm hlt;refine⟨λhnil=>?_,λi hi=>?_⟩;have:=rdy ((listed.setIfInBounds (ops.size-1) true).setIfInBounds (ops.size-3) true) (ops.size-2) oB (by simpa using hs) hB (by rw [lCA];simp;omega) (λj hj=>by rw [lCA];simp;omega);rw [hnil] at this;cases this;have hi':=out _ i (by simpa using hs) hi;have hi2:¬ (i<ops.size-2∨i=ops.size-1):=λh=>by have:=hi'.2.1;rw [lCA,decide_eq_true h] at this;cases this
  obtain rfl:i=ops.size-2:=by have:=hi'.1;omega
  refine pQ hcf sA st2.rm hB (hg _ _ hB) (v:=.undef) (m1:=m2) (by rw [← hB2];exact hb) (by simp) λι3 w3 st3 _=>?_;rw [← hBd,qI];exact fin _ _ w3 ι3 (λj hj=>by rw [ak _ _ _ (by simp;omega),lCA];by_cases h:j=ops.size-2<;>simp [h];omega) (by simpa using hs) (st1.trans (st2.trans st3)) (st3.env sA.env) (iA _ _ _).2 (bJ _ _ _)
  exact absurd hi (nB _ (by simpa using hs) hclC (by rw [lC];simp;omega))
theorem MG {ops:Array Oper}{k i:Nat}{o:Oper}(h:(ops.extract 0 k)[i]?=some o):ops[i]?=some o:=by rw [Array.getElem?_extract] at h;split at h;rw [aav] at h;exact h;cases h
theorem JJ {ops:Array Oper}(h:Jk (masks ops.toList) ops=true):3<=ops.size∧(∀(i:Nat) (o:Oper),ops[i]?=some o->o.guard=none)∧
  (∀(i:Nat) (o:Oper),ops[i]?=some o->∀e∈o.after,Region.binds .any e=true->e.on<i)∧(∀i,ops.size-3<=i->i<ops.size->∀j,j<ops.size-3->Ao ops i j)∧Ao ops (ops.size-2) (ops.size-3):=by
 simp only [Jk,U9,ace,adY] at h;obtain⟨⟨⟨h1,h2⟩,h3⟩,h4⟩:=h;have h1:3<=ops.size:=Y2 h1;have key:∀(i:Nat) (o:Oper),ops[i]?=some o->(∀e∈o.after,Region.binds .any e=true->e.on<i)∧o.guard=none:=λi o ho=>by have:=h2 i (K9.1 ho).1;rw [ho] at this;simp only [U9,ace] at this;refine⟨λe he hb=>?_,Option.isNone_iff_eq_none.1 this.2⟩;have:=this.1 e (by simpa using he);rw [hb] at this;simpa using this
 refine⟨h1,λi o ho=>(key i o ho).2,λi o ho=>(key i o ho).1,λi hi hi2 j hj=>?_,fA _ _ _ h4⟩;obtain⟨⟨g1,g2⟩,g3⟩:=h3 j hj;have:i=ops.size-3∨i=ops.size-2∨i=ops.size-1:=by omega
 rcases this with rfl | rfl | rfl;exact fA _ _ _ g1;exact fA _ _ _ g2;exact fA _ _ _ g3
def aey (Q:Exit->Act->World->Prop)(N:Act->World->Prop):Exit->Act->World->Prop
 | .normal,b,w=>N b w
 | x,b,w=>Q x b w
theorem nY {cf:F4}(hmix:P.follows .mixedOrders=true)(hcf:mU P G cf)(slots:List Nat)(nt:Nat)(r:Option Nat):kR P G slots nt cf r:=by
 intro id ops ac fuel hc hti Q ir env m k ι w a outs hm hen hnt hmk hir hv hQ;simp only [Q7] at hc;split at hc;unfold Dn at hc;split at hc;rename_i n l hd;split at hc;rename_i hok;obtain⟨h3,hg,hdown,hdep,hyx⟩:=JJ hok;unfold Ck at hc;split at hc;rename_i po d1 s v s' a' v' hx hy hz;split at hc;rename_i hnl;simp only [U9] at hnl;cases hc;have hv:bnd (bnd (tV l cf m.nx [] env (reserve n m) [reserve n m]) (gM k)) (λo=>bK.rec (bnd (bC [⟨.p po,none,none⟩,⟨.e (.store s (.loc 0) v),none,none⟩,⟨.e (.storeAp s' a' v' (.loc 1)),none,none⟩] cf [] o.env o.m) (gM o.marks))
  (λ_=>some [o]) (some [o]) o.x)=some outs:=hv
 obtain⟨os,hos,hk⟩:=aH hv;obtain⟨es,hes,hk1⟩:=aH hos;refine wpIn_region_any hmix ?_;have hsz:(ops.extract 0 (ops.size-3)).size=ops.size-3:=by rw [Array.size_extract];omega
 have h1:=Bu (r:=r) hcf slots nt _ n l hd (λi o t ho ht=>iP hti i o t (MG ho) ht)
  (aey Q λb w'=>∃e1∈es,∃ι',e1.px=none∧e1.mks=[]∧Step P G ι m w ι' e1.m w'∧U7 ι' (e1.m.nm ι') slots e1.env b.tmps∧b.defers=a.defers∧b.tmps.size=a.tmps.size) env m ι w a es hm hen hnt hes
  (λe1 he hpx hmk0 ι' w' b hst hen' hdef hbs=>⟨e1,he,ι',hpx,hmk0,hst,hen',hdef,hbs⟩) ?_
 rw [hsz] at h1;have:=Gg (ops:=ops) (k:=ops.size-3) (Q:=Q) (Q1:=aey Q _) (by omega) hg hdown hdep (λc a w h=>h) (λ⟨a,w,h⟩=>⟨a,w,h⟩) ?_ (ops.size-3) (Array.replicate ops.size false) (Array.replicate (ops.size-3) false) a _ (by simp) (by simp)
  (λj=>by rw [Xd,Xd,adZ,adZ];split<;>split<;>rfl)
  (λi o h=>by rw [Xd,adZ] at h;split at h<;>cases h)
  (by unfold sO;rw [afO.2 (λi _=>by rw [Xd,adZ];split<;>rfl),aie]) h1
 rw [show ops.size-3+(ops.size-(ops.size-3))=ops.size from by omega] at this;exact this;rintro b w' ⟨e1,he,ι',hpx,hmk0,hst,hen',hdef,hbs⟩ listed hls hcl hl;rw [show ops.size-(ops.size-3)=3 from by omega];obtain⟨os1,hos1,hsub1⟩:=hk1 e1 he;obtain⟨env₁,m₁,px₁,mk₁⟩:=e1;obtain rfl:px₁=none:=hpx;obtain rfl:mk₁=[]:=hmk0;have hos1:nN .normal env₁ m₁ k=some os1:=hos1;cases hos1;obtain⟨os2,hos2,hsub2⟩:=hk _ (hsub1 _ (J3.2 rfl));have hos2:bnd (bC [⟨.p po,none,none⟩,⟨.e (.store s (.loc 0) v),none,none⟩,⟨.e (.storeAp s' a' v' (.loc 1)),none,none⟩] cf [] env₁ m₁) (gM k)=some os2:=hos2;obtain⟨es2,hes2,hk2⟩:=aH hos2;refine OY hcf h3 hx hy hz hnl.1 hnl.2 (iP hti) hg hdown hyx hst.rm hen' (by rw [hbs];exact hnt) hes2 ?_ hls hcl hl;intro e2 he2 hpx2 hmk2 ι'' w'' a'' hst2 hen2 hdef2 hbs2;obtain⟨os3,hos3,hsub3⟩:=hk2 e2 he2;obtain⟨env₂,m₂,px₂,mk₂⟩:=e2;obtain rfl:px₂=none:=hpx2;obtain rfl:mk₂=[]:=hmk2;have hos3:nN .normal env₂ m₂ k=some os3:=hos3;cases hos3;exact hQ _ (hsub2 _ (hsub3 _ (J3.2 rfl))) ι'' w'' a'' (hst.trans hst2) hen2 (hbs2.trans hbs) (by rw [hdef2,hdef];exact hmk.step (hst.trans hst2)) (bA rfl);intro e1 he y hpx hmk0 ι' w' b hst hylt hen' hdef hbs;obtain⟨os1,hos1,hsub1⟩:=hk1 e1 he;obtain⟨env₁,m₁,px₁,mk₁⟩:=e1;obtain rfl:px₁=some y:=hpx;obtain rfl:mk₁=[]:=hmk0;have hos1:some [(⟨.ret,env₁,m₁,k,some y⟩:Out)]=some os1:=hos1;cases hos1;obtain⟨os2,hos2,hsub2⟩:=hk _ (hsub1 _ (J3.2 rfl));have hos2:some [(⟨.ret,env₁,m₁,k,some y⟩:Out)]=some os2:=hos2;cases hos2;exact hQ _ (hsub2 _ (J3.2 rfl)) ι' w' b hst hen' hbs (by rw [hdef];exact hmk.step hst) (λz hz=>by cases hz;exact⟨rfl,hylt⟩);cases hc;cases hc;cases hc;cases hc;have hform:∃n l,ac=.dreg n l:=by unfold yC at hc;split at hc;cases hc;split at hc;cases hc;exact⟨_,_,rfl⟩;cases hc
 obtain⟨n,l,rfl⟩:=hform;have hv:bnd (tV l cf m.nx [] env (reserve n m) [reserve n m]) (gM k)=some outs:=hv;obtain⟨es,hes,hk⟩:=aH hv;refine wpIn_region_any hmix (Bu hcf slots nt r ops n l hc (iP hti) Q env m ι w a es hm hen hnt hes ?_ ?_);intro e he hpx hmk0 ι' w' a' hst hen' hdef hsz;obtain⟨os,hos,hsub⟩:=hk e he;obtain⟨env₁,m₁,px₁,mk₁⟩:=e;obtain rfl:px₁=none:=hpx;obtain rfl:mk₁=[]:=hmk0;have hos:nN .normal env₁ m₁ k=some os:=hos;cases hos;exact hQ _ (hsub _ (J3.2 rfl)) ι' w' a' hst hen' hsz (by rw [hdef];exact hmk.step hst) (bA rfl);intro e he y hpx hmk0 ι' w' a' hst hylt hen' hdef hsz;obtain⟨os,hos,hsub⟩:=hk e he;obtain⟨env₁,m₁,px₁,mk₁⟩:=e;obtain rfl:px₁=some y:=hpx;obtain rfl:mk₁=[]:=hmk0;have hos:some [(⟨.ret,env₁,m₁,k,some y⟩:Out)]=some os:=hos;cases hos;exact hQ _ (hsub _ (J3.2 rfl)) ι' w' a' hst hen' hsz (by rw [hdef];exact hmk.step hst) (λz hz=>by cases hz;exact⟨rfl,hylt⟩)
end
section
variable {P:Program}{G:Mem}{ι:K4}{n:Nm}{m:Mem}{w:World}{slots:List Nat}
def qJ (ι:K4):Option j3->FrameMode->Prop
 | some x,u=>u=.panicking [{v:=o8 ι x,recovered:=false}]
 | none,u=>u=.returning∨∃v,u=.panicking [{v,recovered:=true}]
theorem qJ.settle {md:Option j3}{u:FrameMode}(h:qJ ι md u):Go.settle u=xK ι md:=by
 cases md with
 | some x=>obtain rfl:u=_:=h;rfl
 | none=>rcases h with rfl | ⟨v,rfl⟩<;>rfl
theorem qJ.of {md:Option j3}:qJ ι md (xK ι md):=by
 cases md with
 | some x=>rfl
 | none=>exact .inl rfl
theorem qJ.step {ι':K4}{m':Mem}{w':World}{md:Option j3}{u:FrameMode}(h:qJ ι md u)(hmd:Am ι m md)(hst:Step P G ι m w ι' m' w'):qJ ι' md u:=by
 cases md with
 | some x=>have h:u=_:=h;have:=hst.o8 (hmd x rfl);show u=.panicking [{v:=o8 ι' x,recovered:=false}];rw [this];exact h
 | none=>exact h
theorem Si (i:Inst)(l:List Inst)(cf:F4)(ls:List j3)(env:T j3)(m:Mem)(md:Option j3):
  tY (i::l) cf ls env m md=match isRec i with
   | true=>match md with
    | some x=>tY l cf (x::ls) (bW i.dst x env) m none
    | none=>tY l cf (.nilIface::ls) (bW i.dst .nilIface env) m none
   | false=>match i.op with
    | .p o=>ob (FJ i.guard (nk o) ls env) λv=>tY l cf (v::ls) (bW i.dst v env) m md
    | .r o=>ob (wY i.guard (ru o) ls env m) λv=>tY l cf (v::ls) (bW i.dst v env) m md
    | _=>none:=rfl
theorem vQ {ops:Array Oper}{o:Oper}{i:Nat}{rest:List Nat}(ho:ops[i]?=some o){done:List (Option Nat)}{ls:List j3}{env:T j3}{a:Act}{cs:List Frame}{Q:Exit->Act->List Frame->World->Prop}
  (s:St P ι n slots done ls env a.tmps) {g:Option (P6×Bool)} (hg:mX ops done o.guard g) {v u:j3} (hu:u=bi (sZ g ls env) v .undef)
  (hrun:sZ g ls env=true->(execOp a.eval o).run P w=.ok (.value (o8 ι v)) w) (h:wpOpsSIn Fence.wide 0 P ops Q rest (a.put o.dst (o8 ι u)) cs w):
  wpOpsSIn Fence.wide 0 P ops Q (i::rest) a cs w:=by
 simp only [wpOpsSIn,ho];refine⟨λ_ _=>trivial,?_⟩;rw [nG s hg];cases hb:sZ g ls env with
 | true=>rw [hb] at hu;obtain rfl:u=v:=hu;simp only [if_true];rw [hrun hb];exact h
 | false=>rw [hb] at hu;obtain rfl:u=.undef:=hu;rw [kP] at h;simp only [J9,if_false];exact h
theorem XV (g:Option (P6×Bool))(f:PF)(ls:List j3)(env:T j3):FJ g f ls env=bi (sZ g ls env) (f ls env) (some .undef):=by cases g<;>rfl
theorem XW (g:Option (P6×Bool))(f:RF)(ls:List j3)(env:T j3)(m:Mem):wY g f ls env m=bi (sZ g ls env) (f ls env m) (some .undef):=by cases g<;>rfl
theorem abb {done:List (Option Nat)}{op:Op}{po:TH}(h:.p po=jZ P slots done op):fO P slots done op=some (.p po):=by unfold jZ at h;split at h;rename_i ao hao;rw [hao,← h];cases h
theorem abd {done:List (Option Nat)}{op:Op}{ro:Oc}(h:.r ro=jZ P slots done op):fO P slots done op=some (.r ro):=by unfold jZ at h;split at h;rename_i ao hao;rw [hao,← h];cases h
theorem Vh {done:List (Option Nat)}{op:Op}(h:.e .recover=jZ P slots done op):fO P slots done op=some (.e .recover):=by unfold jZ at h;split at h;rename_i ao hao;rw [hao,← h];cases h
theorem Vi {i:Inst}(h:isRec i=true):i.op=.e .recover∧i.guard=none:=by unfold isRec at h;split at h;exact⟨by assumption,by assumption⟩;cases h
theorem OZ {cf:F4}{ops:Array Oper}{nt:Nat}(hin:∀(i:Nat)(o:Oper)(t:Tmp),ops[i]?=some o->o.dst=some t->t<nt){Q:Exit->Act->List Frame->World->Prop}{c₀:Frame}{cs:List Frame}
  (hm:RM P G ι m w.heap):
  ∀(l:List Nat) (done:List (Option Nat)) (insts:List Inst),jH P slots ops done l=some insts->∀(ls:List j3) (env:T j3) (md:Option j3) (u:FrameMode) (a:Act) (outs:List (EM×Option j3)),
   nt<=a.tmps.size->St P ι (m.nm ι) slots done ls env a.tmps->Am ι m md->qJ ι md u->tY insts cf ls env m md=some outs->
   (∀r∈outs,∀u' a',r.1.m=m->U7 ι (m.nm ι) slots r.1.env a'.tmps->a'.defers=a.defers->a'.tmps.size=a.tmps.size->Am ι m r.2->qJ ι r.2 u'->Q .normal a' ({c₀ with mode:=u'}::cs) w)->
   wpOpsSIn Fence.wide 0 P ops Q l a ({c₀ with mode:=u}::cs) w:=by
 intro l;induction l with
 | nil=>
  intro done insts hc ls env md u a outs hnt s hmd hrel hv hQ;simp only [jH,J6] at hc;subst hc;have hv:some [((⟨env,m,none,[]⟩:EM),md)]=some outs:=by rw [← hv,tY]
  cases hv;exact hQ _ (J3.2 rfl) u a rfl s.env rfl rfl hmd hrel
 | cons i rest ih=>
  intro done insts hc ls env md u a outs hnt s hmd hrel hv hQ;obtain⟨x,d,l,hx,hl,rfl⟩:=pO hc;obtain⟨o,h1,rfl,h2,h3,h4⟩:=kQ hx;rw [Si] at hv;have step:∀(v:j3) (md':Option j3) (u':FrameMode),v.lt (m.nm ι)->Am ι m md'->qJ ι md' u'->tY l cf (v::ls) (bW x.dst v env) m md'=some outs->
    wpOpsSIn Fence.wide 0 P ops Q rest (a.put o.dst (o8 ι v)) ({c₀ with mode:=u'}::cs) w:=by
   intro v md' u' hlt hmd' hrel' hv;rw [h3] at hv;have s':=s.put o.dst (λt ht=>Xb (hin i o t h1 ht) hnt) hlt;refine ih _ _ hl _ _ md' u' (a.put o.dst (o8 ι v)) outs (by rw [bJ];exact hnt) (by rw [(iA a o.dst (o8 ι v)).1];exact s') hmd' hrel' hv ?_;intro r hr u'' a' e1 e2 e3 e4 e5 e6;exact hQ r hr u'' a' e1 e2 (by rw [e3,(iA a o.dst _).2]) (e4.trans (bJ a o.dst _)) e5 e6
  cases hr:isRec x with
  | true=>
   rw [hr] at hv;obtain⟨g1,g2⟩:=Vi hr;rw [g1] at h2;rw [g2] at h4;have hop:=Vh h2;have hw:Region.wanted o (yielded ops a.tmps)=true:=by rw [nG s h4];rfl
   have hrun:(execOp a.eval o).run P w=.ok .recover w:=by
    cases ho:o.op with
    | call c=>
     rw [ho] at hop;cases yK hop with
     | recover hcal=>simp [execOp,ho,resolve,hcal,invoke,builtin]
    | _=>rw [ho] at hop;cases yK hop
   simp only [wpOpsSIn,h1];refine⟨λ_ _=>trivial,?_⟩;rw [hw,if_pos rfl,hrun];cases md with
   | some y=>obtain rfl:u=.panicking [{v:=o8 ι y,recovered:=false}]:=hrel;exact step y none (.panicking [{v:=o8 ι y,recovered:=true}]) (hmd y rfl) (λ_ h=>by cases h) (.inr ⟨_,rfl⟩) hv
   | none=>
    have hrec:recoverD ({c₀ with mode:=u}::cs)=none:=by rcases hrel with rfl | ⟨v,rfl⟩<;>rfl
    show (match recoverD ({c₀ with mode:=u}::cs) with
     | some (v,cs')=>wpOpsSIn Fence.wide 0 P ops Q rest (a.put o.dst v) cs' w
     | none=>wpOpsSIn Fence.wide 0 P ops Q rest (a.put o.dst .nilIface) ({c₀ with mode:=u}::cs) w)
    rw [hrec];have:=step .nilIface none u trivial hmd hrel hv;simp only [o8] at this;exact this
  | false=>
   rw [hr] at hv;obtain⟨op,dst,guard⟩:=x;cases op with
   | p po=>
    have hv:ob (FJ guard (nk po) ls env) (λv=>tY l cf (v::ls) (bW dst v env) m md)=some outs:=hv;obtain⟨v,hv1,hv⟩:=C8 hv;rw [XV] at hv1;have hop:=abb h2;cases hb:sZ guard ls env with
    | true=>rw [hb] at hv1;have hv1:nk po ls env=some v:=hv1;obtain⟨g1,g2⟩:=rH s hop hv1;exact vQ h1 s h4 (v:=v) (u:=v) (by rw [hb];rfl) (λ_=>g2 o rfl w) (step v md u g1 hmd hrel hv)
    | false=>rw [hb] at hv1;obtain rfl:j3.undef=v:=Y7 hv1;exact vQ h1 s h4 (v:=.undef) (u:=.undef) (by rw [hb];rfl) (λh=>by rw [hb] at h;cases h) (step .undef md u trivial hmd hrel hv)
   | r ro=>
    have hv:ob (wY guard (ru ro) ls env m) (λv=>tY l cf (v::ls) (bW dst v env) m md)=some outs:=hv;obtain⟨v,hv1,hv⟩:=C8 hv;rw [XW] at hv1;have hop:=abd h2;cases hb:sZ guard ls env with
    | true=>rw [hb] at hv1;have hv1:ru ro ls env m=some v:=hv1;obtain⟨g1,g2⟩:=rJ s hm (uE hop) hv1;exact vQ h1 s h4 (v:=v) (u:=v) (by rw [hb];rfl) (λ_=>g2 o rfl) (step v md u g1 hmd hrel hv)
    | false=>rw [hb] at hv1;obtain rfl:j3.undef=v:=Y7 hv1;exact vQ h1 s h4 (v:=.undef) (u:=.undef) (by rw [hb];rfl) (λh=>by rw [hb] at h;cases h) (step .undef md u trivial hmd hrel hv)
   | a _=>cases hv
   | e _=>cases hv
def Vj (P:Program)(G:Mem)(slots:List Nat)(nt:Nat)(cf:F4)(fuel:Nat)(c:Code)(ac:U6):Prop:=
 ∀(Q:Exit->Act->List Frame->World->Prop) (env:T j3) (m:Mem) (md:Option j3) (ι:K4) (w:World) (a:Act) (c₀:Frame) (cs:List Frame) (u:FrameMode) (outs:List Le),
  RM P G ι m w.heap->U7 ι (m.nm ι) slots env a.tmps->nt<=a.tmps.size->a.defers=[]->Am ι m md->qJ ι md u->wJ ac cf fuel env m md=some outs->
  (∀r∈outs,∀ι' w' a' u',Step P G ι m w ι' r.o.m w'->U7 ι' (r.o.m.nm ι') slots r.o.env a'.tmps->a'.tmps.size=a.tmps.size->gD ι' r.o.m r.o.marks a'.defers->RQ ι' r.o->Am ι' r.o.m r.md->qJ ι' r.md u'->Q (Qn ι' r.o) a' ({c₀ with mode:=u'}::cs) w')->
  c.wpSIn Fence.wide 0 P Q a ({c₀ with mode:=u}::cs) w
theorem dH {nt:Nat}{cf:F4}(hcf:mU P G cf)(fuel:Nat)(hdraw:kR P G slots nt cf none){c:Code}{ac:U6}(hc:Q7 P slots c=some ac)(ht:tmpsIn nt c=true)
  (hev:∀env m md,wJ ac cf fuel env m md=bnd (vK ac cf fuel none env m []) λo=>some [⟨o,md⟩]):Vj P G slots nt cf fuel c ac:=by
 intro Q env m md ι w a c₀ cs u outs hm hen hnt hdef hmd hrel hv hQ;rw [hev] at hv;obtain⟨os,hos,hk⟩:=aH hv;refine wpSIn_of_wpIn rfl (rU hcf fuel hdraw c ac hc ht _ none env m [] ι w a os hm hen hnt ⟨by rw [hdef];rfl,λ_ h=>by cases h⟩ ⟨rfl,λ_ h=>by cases h⟩ hos ?_);intro o ho ι' w' a' hst hen' hsz hmk hpv;obtain⟨rs,hrs,hsub⟩:=hk o ho;cases hrs;exact hQ _ (hsub _ (J3.2 rfl)) ι' w' a' u hst hen' hsz hmk hpv (hmd.step hst).1 (hrel.step hmd hst)
theorem Sj {nt:Nat}{cf:F4}(hcf:mU P G cf)(fuel:Nat)(hdraw:kR P G slots nt cf none):∀(c:Code) (ac:U6),Q7 P slots c=some ac->tmpsIn nt c=true->Vj P G slots nt cf fuel c ac:=by
 intro c;induction c with
 | region id ops d=>
  intro ac hc ht;cases d with
  | true=>refine dH hcf fuel hdraw hc ht ?_;rcases OM hc with⟨n,l,rfl⟩ | ⟨n,l,t,rfl⟩;exact λenv m md=>rfl;exact λenv m md=>rfl
  | false=>
   have hc0:=hc;simp only [Q7] at hc;split at hc;rename_i insts hi;cases hc;cases hr:Dl insts with
   | false=>refine dH hcf fuel hdraw hc0 ht ?_;intro env m md;rw [wJ,hr]
   | true=>intro Q env m md ι w a c₀ cs u outs hm hen hnt hdef hmd hrel hv hQ;rw [wJ,hr] at hv;have hv:bnd (tY insts cf [] env m md) (λr=>some [⟨⟨.normal,r.1.env,r.1.m,[],none⟩,r.2⟩])=some outs:=hv;obtain⟨os,hos,hk⟩:=aH hv;refine wpSIn_region (OZ (iP ht) hm _ [] insts hi [] env md u a os hnt (St.start hm hen) hmd hrel hos ?_);intro r hr' u' a' e1 e2 e3 e4 e5 e6;obtain⟨rs,hrs,hsub⟩:=hk r hr';cases hrs;obtain⟨⟨env₁,m₁,px₁,mk₁⟩,md₁⟩:=r;obtain rfl:m₁=m:=e1;exact hQ _ (hsub _ (J3.2 rfl)) ι w a' u' (Step.refl hm) e2 e4 ⟨by rw [e3,hdef];rfl,λ_ h=>by cases h⟩ (bA rfl) e5 e6
   cases hc
 | seq x y ihx ihy=>
  intro ac hc ht Q env m md ι w a c₀ cs u outs hm hen hnt hdef hmd hrel hv hQ;simp only [tmpsIn,U9] at ht;simp only [Q7] at hc;split at hc;rename_i cx cy hx hy;cases hc;rw [wJ] at hv;obtain⟨os,hos,hk⟩:=aH hv;refine wpSIn_seq (ihx cx hx ht.1 _ env m md ι w a c₀ cs u os hm hen hnt hdef hmd hrel hos ?_);rintro⟨⟨x₀,env₀,m₀,k₀,pv₀⟩,md₀⟩ ho ι' w' a' u' hst hen' hsz hmk' hpv hmd' hrel';obtain⟨os',hos',hsub⟩:=hk _ ho;cases x₀ with
  | normal=>
   obtain rfl:pv₀=none:=lD hpv (by intro e;cases e);cases k₀ with
   | cons=>cases hos'
   | nil=>have hos':wJ cy cf fuel env₀ m₀ md₀=some os':=hos';refine ihy cy hy ht.2 Q env₀ m₀ md₀ ι' w' a' c₀ cs u' os' hst.rm hen' (by rw [hsz];exact hnt) hmk'.1 hmd' hrel' hos' ?_;intro r hr ι'' w'' a'' u'' hst' hen'' hsz' hmk'' hpv' hmd'' hrel'';exact hQ r (hsub _ hr) ι'' w'' a'' u'' (hst.trans hst') hen'' (hsz'.trans hsz) hmk'' hpv' hmd'' hrel''
  | exit id=>obtain rfl:pv₀=none:=lD hpv (by intro e;cases e);cases hos';exact hQ _ (hsub _ (J3.2 rfl)) ι' w' a' u' hst hen' hsz hmk' hpv hmd' hrel'
  | ret=>cases hos';have:=hQ _ (hsub _ (J3.2 rfl)) ι' w' a' u' hst hen' hsz hmk' hpv hmd' hrel';cases pv₀<;>exact this
  cases hc
 | cond c x y ihx ihy=>
  intro ac hc ht Q env m md ι w a c₀ cs u outs hm hen hnt hdef hmd hrel hv hQ;simp only [tmpsIn,U9] at ht;simp only [Q7] at hc;split at hc;rename_i z cx cy hz hx hy;cases hc;rw [wJ] at hv;obtain⟨t,h1,hv⟩:=qD hv;obtain⟨e1,_⟩:=A8 (St.start hm hen) hz;refine wpSIn_cond (t:=t) (by rw [e1,h1];rfl) ?_;cases t with
  | true=>exact ihx cx hx ht.1 Q env m md ι w a c₀ cs u outs hm hen hnt hdef hmd hrel hv hQ
  | false=>exact ihy cy hy ht.2 Q env m md ι w a c₀ cs u outs hm hen hnt hdef hmd hrel hv hQ
  cases hc
 | skip=>intro ac hc ht;simp only [Q7,J6] at hc;subst hc;exact dH hcf fuel hdraw rfl ht λ_ _ _=>rfl
 | exit id=>intro ac hc ht;simp only [Q7,J6] at hc;subst hc;exact dH hcf fuel hdraw rfl ht λ_ _ _=>rfl
 | ret=>intro ac hc ht;simp only [Q7,J6] at hc;subst hc;exact dH hcf fuel hdraw rfl ht λ_ _ _=>rfl
 | block id x _=>
  intro ac hc ht;have hform:∃y,ac=.block id y:=by simp only [Q7] at hc;split at hc;cases hc;exact⟨_,rfl⟩;cases hc
  obtain⟨y,rfl⟩:=hform;exact dH hcf fuel hdraw hc ht λ_ _ _=>rfl
 | loop x _=>
  intro ac hc ht;have hform:∃y,ac=.loop y:=by simp only [Q7] at hc;split at hc;cases hc;exact⟨_,rfl⟩;cases hc
  obtain⟨y,rfl⟩:=hform;exact dH hcf fuel hdraw hc ht λ_ _ _=>rfl
 | rangeFunc g ps x y _ _=>
  intro ac hc ht;have hform:∃a b c d,ac=.rangeFunc a b c d:=by simp only [Q7] at hc;split at hc;cases hc;exact⟨_,_,_,_,rfl⟩;cases hc
  obtain⟨_,_,_,_,rfl⟩:=hform;exact dH hcf fuel hdraw hc ht λ_ _ _=>rfl
 | scope x ihx=>intro ac hc;simp only [Q7] at hc;cases hc
 | label l=>intro ac hc;simp only [Q7] at hc;cases hc
 | goto l=>intro ac hc;simp only [Q7] at hc;cases hc
 | refuse s=>intro ac hc _ Q env m md ι w a c₀ cs u outs hm hen hnt hdef hmd hrel hv hQ;simp only [Q7,J6] at hc;subst hc;have hv:(none:Option (List Le))=some outs:=hv;cases hv
theorem Ht {K:Known}(hfns:∀f sf,K.fns f=some sf->oU P f sf){cf:F4}(hcf:mU P G cf)(fuel:Nat)(hdraw:∀slots nt r,kR P G slots nt cf r):XK P G (pq K cf fuel):=by
 intro f args md m outs h;obtain⟨sf,h1,h⟩:=C8 h;obtain⟨hok,slots,fn,c,ac,rs,g1,g2,g3,g4,g5,g6,g7,e1,e2,e3,e4,e5⟩:=hfns f sf h1;refine⟨hok,λ{ι w} hm hargs hmd=>?_⟩;obtain⟨c',h2,h⟩:=C8 h;obtain rfl:=e5 c' h2;obtain⟨env,h3,h⟩:=C8 h;obtain⟨os,hos,hk⟩:=aH h;rw [e1,e2] at h3;obtain⟨q1,q2,q3⟩:=Hg g6 g7 hargs h3;refine callsDIn_of_wpSIn g1 g2 trivial λc₀ cs hu=>?_;have hc₀:({c₀ with mode:=xK ι md}:Frame)=c₀:=by rw [← hu]
 rw [← hc₀];refine Sj hcf fuel (hdraw slots fn.ntmps none) c c' g3 g5 _ env m md ι w _ c₀ cs (xK ι md) os hm q2 q3 rfl hmd qJ.of hos ?_;rintro⟨⟨x₀,env₀,m₀,k₀,pv₀⟩,md₀⟩ ho ι' w' a' u' hst hen' hsz hmk' hpv hmd' hrel';obtain⟨vs,hvs,hsub⟩:=hk _ ho;have hform:k₀=[]∧pv₀=none∧(∀id,x₀≠.exit id)∧∃l,results sf.results env₀ m₀=some l∧vs=[(m₀,md₀)]:=by
  have hvs:Oj sf.results ⟨⟨x₀,env₀,m₀,k₀,pv₀⟩,md₀⟩=some vs:=hvs;have key:ob (results sf.results env₀ m₀) (λ_=>some [(m₀,md₀)])=some vs->∃l,results sf.results env₀ m₀=some l∧vs=[(m₀,md₀)]:=by intro h;obtain⟨l,hl,h⟩:=C8 h;cases h;exact⟨l,hl,rfl⟩
  cases x₀ with
  | exit id=>cases k₀<;>cases pv₀<;>cases hvs
  | normal=>
   cases k₀ with
   | cons=>cases pv₀<;>cases hvs
   | nil=>
    cases pv₀ with
    | some=>cases hvs
    | none=>exact⟨rfl,rfl,(λid h=>by cases h),key hvs⟩
  | ret=>
   cases k₀ with
   | cons=>cases pv₀<;>cases hvs
   | nil=>
    cases pv₀ with
    | some=>cases hvs
    | none=>exact⟨rfl,rfl,(λid h=>by cases h),key hvs⟩
 obtain⟨rfl,rfl,hne,l,hres,rfl⟩:=hform;rw [e3] at hres;obtain⟨r1,r2⟩:=wT hst.rm hen' _ rs g4 l hres;have hd:a'.defers=[]:=hmk'.1;have hrun:(Go.results fn a'.tmps).run P w'=.ok (o8 ι' (result l)) w':=by rw [Hf,Ei,aiK];simp only [Y1,map_eq_pure_bind,bind_assoc,pure_bind];rw [r2];simp
 have fin:a'.defers=[]∧∃u'',(({c₀ with mode:=u'}:Frame)::cs)=({({c₀ with mode:=xK ι md}:Frame) with mode:=u''}:Frame)::cs∧∃v,(Go.results fn a'.tmps).run P w'=.ok v w'∧
   ∃v',Ending.returned v=.returned v'∧∃r∈outs,∃ι',Step P G ι m w ι' r.1 w'∧Am ι' r.1 r.2∧settle u''=xK ι' r.2:=
  ⟨hd,u',rfl,_,hrun,_,rfl,(m₀,md₀),hsub _ (J3.2 rfl),ι',hst,hmd',hrel'.settle⟩
 cases x₀ with
 | normal=>exact fin
 | ret=>exact fin
 | exit id=>exact absurd rfl (hne id)
end
section
variable {P:Program}{ι ι':K4}{n n':Nm}{r:Nat->Option Nat}
def Bv (ι:K4)(n:Nm)(ι':K4)(n':Nm)(r:Nat->Option Nat):Prop:=∀i j,r i=some j->n i->n' j∧ι' j=ι i∧n'.cap j=n.cap i
mutual
theorem nZ (hr:Bv ι n ι' n' r):∀(v v':j3),eB r v=some v'->v.lt n->o8 ι' v'=o8 ι v∧v'.lt n'
 | .undef,v',h,_ | .bool _,v',h,_ | .int _ _,v',h,_ | .str _,v',h,_ | .nilPtr,v',h,_ | .nilSlice,v',h,_ | .nilMap,v',h,_ | .nilFunc,v',h,_ | .nilIface,v',h,_=>by simp only [eB,J6] at h;subst h;simp [o8,j3.lt]
 | .ptr i o,v',h,hv=>by simp only [eB] at h;obtain⟨j,h1,h2⟩:=C8 h;cases h2;obtain⟨g1,g2,g3⟩:=hr i j h1 hv;exact⟨by simp [o8,K4.at,g2],g1⟩
 | .slice i o l c,v',h,hv=>by simp only [eB] at h;obtain⟨j,h1,h2⟩:=C8 h;cases h2;obtain⟨g1,g2,g3⟩:=hr i j h1 hv;exact⟨by simp [o8,K4.at,g2],g1⟩
 | .sliceU i o l c,v',h,hv=>by simp only [eB] at h;obtain⟨j,h1,h2⟩:=C8 h;cases h2;obtain⟨g1,g2,g3⟩:=hr i j h1 hv.1;exact⟨by simp [o8,K4.at,g2],g1,hv.2.1,by rw [g3];exact hv.2.2⟩
 | .map i,v',h,hv=>by simp only [eB] at h;obtain⟨j,h1,h2⟩:=C8 h;cases h2;obtain⟨g1,g2,g3⟩:=hr i j h1 hv;exact⟨by simp [o8,g2],g1⟩
 | .func fn a b,v',h,hv=>by
  obtain⟨h1,h2,h3⟩:=hv;have key:∀v',(ob (kH r a) λx=>ob (kH r b) λy=>some (j3.func fn x y))=some v'->(∀l,fn≠.yield l)->o8 ι' v'=o8 ι (.func fn a b)∧v'.lt n':=by
   intro v' h hn;obtain⟨x,h4,h⟩:=C8 h;obtain⟨y,h5,h⟩:=C8 h;cases h;obtain⟨g1,g2⟩:=jk hr a x h4 h2;obtain⟨g3,g4⟩:=jk hr b y h5 h3;have e:je ι' fn=je ι fn:=by cases fn<;>first | rfl | exact absurd rfl (hn _)
   refine⟨by simp [o8,g1,g3,e],?_,g2,g4⟩;cases fn<;>first | trivial | exact absurd rfl (hn _)
  cases fn with
  | yield l=>simp only [eB] at h;cases h
  | func f=>exact key v' (by simpa only [eB] using h) (by simp)
  | method f=>exact key v' (by simpa only [eB] using h) (by simp)
  | methodOf f g=>exact key v' (by simpa only [eB] using h) (by simp)
  | via f g x y=>exact key v' (by simpa only [eB] using h) (by simp)
 | .iface t v,v',h,hv=>by simp only [eB] at h;obtain⟨x,h1,h2⟩:=C8 h;cases h2;obtain⟨g1,g2⟩:=nZ hr v x h1 hv;exact⟨by simp [o8,g1],g2⟩
 | .agg l,v',h,hv=>by simp only [eB] at h;obtain⟨x,h1,h2⟩:=C8 h;cases h2;obtain⟨g1,g2⟩:=jk hr l x h1 hv;exact⟨by simp [o8,g1],g2⟩
 | .tuple l,v',h,hv=>by simp only [eB] at h;obtain⟨x,h1,h2⟩:=C8 h;cases h2;obtain⟨g1,g2⟩:=jk hr l x h1 hv;exact⟨by simp [o8,g1],g2⟩
 | .mZ v,v',h,hv=>by simp only [j3.lt] at hv
theorem jk (hr:Bv ι n ι' n' r):∀(l l':List j3),kH r l=some l'->aS n l->y7 ι' l'=y7 ι l∧aS n' l'
 | [],l',h,_=>by simp only [kH,J6] at h;subst h;simp [y7,aS]
 | v::l,l',h,hv=>by simp only [kH] at h;obtain⟨x,h1,h⟩:=C8 h;obtain⟨y,h2,h⟩:=C8 h;cases h;obtain⟨g1,g2⟩:=nZ hr v x h1 hv.1;obtain⟨g3,g4⟩:=jk hr l y h2 hv.2;exact⟨by simp [y7,g1,g3],g2,g4⟩
end
theorem Bw (hr:Bv ι n ι' n' r):∀(l l':List (List j3)),sI r l=some l'->(∀x∈l,aS n x)->l'.length=l.length∧∀(i:Nat) x,l[i]?=some x->∃x',l'[i]?=some x'∧y7 ι' x'=y7 ι x∧aS n' x'
 | [],l',h,_=>by simp only [sI,J6] at h;subst h;simp
 | v::l,l',h,hv=>by
  simp only [sI] at h;obtain⟨x,h1,h⟩:=C8 h;obtain⟨y,h2,h⟩:=C8 h;cases h;obtain⟨g1,g2⟩:=jk hr v x h1 (hv v (by simp));obtain⟨g3,g4⟩:=Bw hr l y h2 (λx hx=>hv x (by simp [hx]));refine⟨by simp [g3],λi u hu=>?_⟩;cases i with
  | zero=>simp at hu;subst hu;exact⟨x,rfl,g1,g2⟩
  | succ i=>obtain⟨x',h3,h4⟩:=g4 i u (by simpa using hu);exact⟨x',by simpa using h3,h4⟩
theorem Eo (hr:Bv ι n ι' n' r):∀(l l':List (j3×j3)),BR r l=some l'->(∀e∈l,e.1.lt n∧e.2.lt n)->l'.length=l.length∧(∀k,I5 ι' l' k=I5 ι l k)∧∀e∈l',e.1.lt n'∧e.2.lt n'
 | [],l',h,_=>by simp only [BR,J6] at h;subst h;simp [I5]
 | e::l,l',h,hv=>by simp only [BR] at h;obtain⟨x,h1,h⟩:=C8 h;obtain⟨y,h2,h⟩:=C8 h;obtain⟨z,h3,h⟩:=C8 h;cases h;obtain⟨g1,g2⟩:=nZ hr e.1 x h1 (hv e (by simp)).1;obtain⟨g3,g4⟩:=nZ hr e.2 y h2 (hv e (by simp)).2;obtain⟨g5,g6,g7⟩:=Eo hr l z h3 (λx hx=>hv x (by simp [hx]));refine⟨by simp [g5],λk=>by simp [I5,g1,g3,g6],λu hu=>?_⟩;rcases Z7.1 hu with rfl | hu;exact⟨g2,g4⟩;exact g7 u hu
theorem Sk {b:O9}{nb:NB}(h:yB b=some nb):bQ b=false:=by cases b<;>first | rfl | (simp [yB] at h)
theorem xQ (nb:NB):bQ (dQ nb)=false:=by cases nb<;>rfl
theorem Ep {r:Nat->Option Nat}{b:O9}{nb nb':NB}(h:yB b=some nb)(h':oQ r nb=some nb'):U2 (dQ nb')=U2 b:=by
 cases b<;>simp only [yB,J6,reduceCtorEq] at h
 subst h;simp only [oQ,J6] at h';subst h';rfl;obtain⟨l,_,h⟩:=C8 h;cases h;simp only [oQ] at h';obtain⟨x,_,h'⟩:=C8 h';cases h';rfl;subst h;simp only [oQ] at h';obtain⟨x,_,h'⟩:=C8 h';cases h';rfl;subst h;simp only [oQ] at h';obtain⟨x,_,h'⟩:=C8 h';cases h';rfl
theorem JK (hr:Bv ι n ι' n' r){h:Array Obj}{l:Loc}{b:O9}{nb nb':NB}(hb:bP P ι n h l b)(hn:yB b=some nb)(hnb:oQ r nb=some nb'):bP P ι' n' h l (dQ nb'):=by
 cases b<;>simp only [yB,J6,reduceCtorEq] at hn
 subst hn;simp only [oQ,J6] at hnb;subst hnb;exact trivial;rename_i rs k rows;obtain⟨rl,h1,hn⟩:=C8 hn;cases hn;simp only [oQ] at hnb;obtain⟨rl',h2,hnb⟩:=C8 hnb;cases hnb;obtain⟨c,e,fz,b1,b2,⟨b3,N,b4,b5,_⟩,b6⟩:=hb;obtain⟨s1,s2⟩:=T.Ot _ _ _ _ h1;have hrow:∀i x,rl[i]?=some x->i<k∧rows.get i=some x:=λi x hx=>by
  have hi:i<k:=by have:=(J5.1 hx).1;omega
  have:=s2 i hi;rw [aav,hx] at this;exact⟨hi,this⟩
 have hlt:∀x∈rl,aS n x:=λx hx=>by obtain⟨i,hi⟩:=aaS hx;obtain⟨g1,g2⟩:=hrow i x hi;obtain⟨row,q1,q2,q3,q4⟩:=b6 i g1;rw [g2] at q1;cases q1;exact q3
 obtain⟨g1,g2⟩:=Bw hr rl rl' h2 hlt;refine⟨c,e,fz,b1,b2,⟨by rw [I9,g1,s1];exact b3,rl'.length,(by rw [I9];exact J2 _),T.fP rl',by rw [I9];exact uo (T.fP rl')⟩,λi hi=>?_⟩;rw [I9,g1,s1] at hi;have hx:rl[i]?=some (rl[i]'(by omega)):=J7 (by omega);obtain⟨x',q1,q2,q3⟩:=g2 i _ hx;obtain⟨_,g4⟩:=hrow i _ hx;obtain⟨row,p1,p2,p3,p4⟩:=b6 i hi;rw [g4] at p1;cases p1;have hlen:x'.length=rs:=by have:=congrArg List.length q2;simp only [V6] at this;omega
 refine⟨x',by rw [T.aG];exact q1,hlen,q3,λj hj=>?_⟩;rw [p4 j hj,← aJ,← aJ,q2];subst hn;simp only [oQ] at hnb;obtain⟨es',h2,hnb⟩:=C8 hnb;cases hnb;obtain⟨b1,b2⟩:=hb;obtain⟨g1,g2,g3⟩:=Eo hr _ _ h2 b2;exact⟨by rw [g2,g1];exact b1,g3⟩;subst hn;simp only [oQ] at hnb;obtain⟨q,h2,hnb⟩:=C8 hnb;cases hnb;obtain⟨b1,b2⟩:=hb;obtain⟨g1,g2,_⟩:=hr _ _ h2 b1;exact⟨g1,by rw [g2];exact b2⟩
mutual
theorem qK {r1 r2:Nat->Option Nat}:∀(v u t:j3),eB r1 v=some u->eB r2 u=some t->eB (λi=>ob (r1 i) r2) v=some t
 | .undef,u,t,h,h' | .bool _,u,t,h,h' | .int _ _,u,t,h,h' | .str _,u,t,h,h' | .nilPtr,u,t,h,h' | .nilSlice,u,t,h,h' | .nilMap,u,t,h,h' | .nilFunc,u,t,h,h' | .nilIface,u,t,h,h'=>by simp only [eB,J6] at h;subst h;simpa only [eB] using h'
 | .ptr i o,u,t,h,h' | .slice i o _ _,u,t,h,h' | .sliceU i o _ _,u,t,h,h' | .map i,u,t,h,h'=>by simp only [eB] at h;obtain⟨j,h1,h2⟩:=C8 h;cases h2;simp only [eB] at h' ⊢;obtain⟨k,h3,h4⟩:=C8 h';rw [h1,P5,h3];exact h4
 | .func fn a b,u,t,h,h'=>by
  cases fn with
  | yield l=>simp only [eB] at h;cases h
  | _=>simp only [eB] at h;obtain⟨x,h1,h⟩:=C8 h;obtain⟨y,h2,h⟩:=C8 h;cases h;simp only [eB] at h' ⊢;obtain⟨x',h3,h'⟩:=C8 h';obtain⟨y',h4,h'⟩:=C8 h';rw [qL a x x' h1 h3,P5,qL b y y' h2 h4];exact h'
 | .iface ty v,u,t,h,h'=>by simp only [eB] at h;obtain⟨x,h1,h⟩:=C8 h;cases h;simp only [eB] at h' ⊢;obtain⟨x',h3,h'⟩:=C8 h';rw [qK v x x' h1 h3];exact h'
 | .mZ v,u,t,h,h'=>by simp only [eB] at h;cases h
 | .agg l,u,t,h,h' | .tuple l,u,t,h,h'=>by simp only [eB] at h;obtain⟨x,h1,h⟩:=C8 h;cases h;simp only [eB] at h' ⊢;obtain⟨x',h3,h'⟩:=C8 h';rw [qL l x x' h1 h3];exact h'
theorem qL {r1 r2:Nat->Option Nat}:∀(v u t:List j3),kH r1 v=some u->kH r2 u=some t->kH (λi=>ob (r1 i) r2) v=some t
 | [],u,t,h,h'=>by simp only [kH,J6] at h;subst h;simpa only [kH] using h'
 | v::l,u,t,h,h'=>by simp only [kH] at h;obtain⟨x,h1,h⟩:=C8 h;obtain⟨y,h2,h⟩:=C8 h;cases h;simp only [kH] at h' ⊢;obtain⟨x',h3,h'⟩:=C8 h';obtain⟨y',h4,h'⟩:=C8 h';rw [qK v x x' h1 h3,P5,qL l y y' h2 h4];exact h'
end
theorem Er {r1 r2:Nat->Option Nat}:∀(v u t:List (List j3)),sI r1 v=some u->sI r2 u=some t->sI (λi=>ob (r1 i) r2) v=some t
 | [],u,t,h,h'=>by simp only [sI,J6] at h;subst h;simpa only [sI] using h'
 | v::l,u,t,h,h'=>by simp only [sI] at h;obtain⟨x,h1,h⟩:=C8 h;obtain⟨y,h2,h⟩:=C8 h;cases h;simp only [sI] at h' ⊢;obtain⟨x',h3,h'⟩:=C8 h';obtain⟨y',h4,h'⟩:=C8 h';rw [qL v x x' h1 h3,P5,Er l y y' h2 h4];exact h'
theorem Hu {r1 r2:Nat->Option Nat}:∀(v u t:List (j3×j3)),BR r1 v=some u->BR r2 u=some t->BR (λi=>ob (r1 i) r2) v=some t
 | [],u,t,h,h'=>by simp only [BR,J6] at h;subst h;simpa only [BR] using h'
 | e::l,u,t,h,h'=>by simp only [BR] at h;obtain⟨x,h1,h⟩:=C8 h;obtain⟨y,h2,h⟩:=C8 h;obtain⟨z,h3,h⟩:=C8 h;cases h;simp only [BR] at h' ⊢;obtain⟨x',h4,h'⟩:=C8 h';obtain⟨y',h5,h'⟩:=C8 h';obtain⟨z',h6,h'⟩:=C8 h';rw [qK e.1 x x' h1 h4,P5,qK e.2 y y' h2 h5,P5,Hu l z z' h3 h6];exact h'
theorem Sl {r1 r2:Nat->Option Nat}{v u t:NB}(h:oQ r1 v=some u)(h':oQ r2 u=some t):oQ (λi=>ob (r1 i) r2) v=some t:=by
 cases v<;>simp only [oQ] at h
 obtain⟨x,h1,h⟩:=C8 h;cases h;simp only [oQ] at h' ⊢;obtain⟨x',h3,h'⟩:=C8 h';rw [Er _ x x' h1 h3];exact h';obtain⟨x,h1,h⟩:=C8 h;cases h;simp only [oQ] at h' ⊢;obtain⟨x',h3,h'⟩:=C8 h';rw [Hu _ x x' h1 h3];exact h';obtain⟨x,h1,h⟩:=C8 h;cases h;simp only [oQ] at h' ⊢;obtain⟨x',h3,h'⟩:=C8 h';rw [h1,P5,h3];exact h';cases h;exact h'
theorem vR {r:Nat->Option Nat}:∀(l l':List NB),sJ r l=some l'->l'.length=l.length∧∀(i:Nat) x,l'[i]?=some x->∃y,l[i]?=some y∧oQ r y=some x
 | [],l',h=>by simp only [sJ,J6] at h;subst h;simp
 | v::l,l',h=>by
  simp only [sJ] at h;obtain⟨x,h1,h⟩:=C8 h;obtain⟨y,h2,h⟩:=C8 h;cases h;obtain⟨g1,g2⟩:=vR l y h2;refine⟨by simp [g1],λi u hu=>?_⟩;cases i with
  | zero=>simp at hu;subst hu;exact⟨v,rfl,h1⟩
  | succ i=>obtain⟨z,h3,h4⟩:=g2 i u (by simpa using hu);exact⟨z,by simpa using h3,h4⟩
mutual
theorem Cq (lo:Nat):∀(v:j3),∀i∈FL lo v,lo<=i
 | .ptr i _,j,h | .slice i _ _ _,j,h | .sliceU i _ _ _,j,h | .map i,j,h=>by
  simp only [FL] at h;cases hb:Nat.ble lo i with
  | true=>rw [hb] at h;obtain rfl:=J3.1 h;exact Y2 hb
  | false=>rw [hb] at h;cases h
 | .func fn a b,j,h=>by simp only [FL] at h;rcases aaF.1 h with h | h;exact vS lo a j h;exact vS lo b j h
 | .iface _ v,j,h=>by simp only [FL] at h;exact Cq lo v j h
 | .agg l,j,h | .tuple l,j,h=>by simp only [FL] at h;exact vS lo l j h
 | .undef,j,h | .bool _,j,h | .int _ _,j,h | .str _,j,h | .nilPtr,j,h | .nilSlice,j,h | .nilMap,j,h | .nilFunc,j,h | .nilIface,j,h | .mZ _,j,h=>by simp only [FL] at h;cases h
theorem vS (lo:Nat):∀(l:List j3),∀i∈tX lo l,lo<=i
 | [],j,h=>by simp only [tX] at h;cases h
 | v::l,j,h=>by simp only [tX] at h;rcases aaF.1 h with h | h;exact Cq lo v j h;exact vS lo l j h
end
theorem MH (lo:Nat):∀(l:List (List j3)),∀i∈Ld lo l,lo<=i
 | [],j,h=>by simp only [Ld] at h;cases h
 | v::l,j,h=>by simp only [Ld] at h;rcases aaF.1 h with h | h;exact vS lo v j h;exact MH lo l j h
theorem Qs (lo:Nat):∀(l:List (j3×j3)),∀i∈Un lo l,lo<=i
 | [],j,h=>by simp only [Un] at h;cases h
 | e::l,j,h=>by simp only [Un] at h;rcases aaF.1 h with h | h;exact Cq lo _ j h;rcases aaF.1 h with h | h;exact Cq lo _ j h;exact Qs lo l j h
theorem XY (lo:Nat)(b:NB):∀i∈Rm lo b,lo<=i:=by
 intro i h;cases b with
 | cells rs rows=>exact MH lo rows i h
 | map es=>exact Qs lo es i h
 | tail p=>
  simp only [Rm] at h;cases hb:Nat.ble lo p with
  | true=>rw [hb] at h;obtain rfl:=J3.1 h;exact Y2 hb
  | false=>rw [hb] at h;cases h
 | dead=>cases h
def Good (m:Mem)(lo:Nat)(l:List (Nat×NB)):Prop:=(∀p∈l,lo<=p.1∧∃b,m.get p.1=some b∧yB b=some p.2)∧(l.map (·.1)).Nodup
theorem Es (n:Nat):∀l:List (Nat×NB),Gv n l=true∨n∉l.map (·.1)
 | []=>.inr (by simp)
 | x::l=>by
  show bi (Nat.beq x.1 n) true (Gv n l)=true∨_;cases hb:Nat.beq x.1 n with
  | true=>exact .inl rfl
  | false=>rcases Es n l with h | h;exact .inl h;refine .inr λhm=>?_;rcases Z7.1 (by simpa using hm:n∈x.1::l.map (·.1)) with h1 | h1;rw [h1,ac0] at hb;cases hb;exact h h1
theorem Pb {m:Mem}{lo:Nat}:∀(k:Nat) (work:List Nat) (seen out:List (Nat×NB)),(∀i∈work,lo<=i)->Good m lo seen->reach m lo k work seen=some out->Good m lo out:=by
 intro k;induction k with
 | zero=>intro work seen out _ _ h;cases h
 | succ k ih=>
  intro work seen out hw hs h;cases work with
  | nil=>have h:some seen.reverse=some out:=h;cases h;exact⟨λp hp=>hs.1 p (aiL.1 hp),by rw [List.map_reverse];exact List.pairwise_reverse.2 (hs.2.imp λh e=>h e.symm)⟩
  | cons i work=>
   have h:bi (Gv i seen) (reach m lo k work seen) (ob (m.get i) λb=>ob (yB b) λnb=>reach m lo k (Rm lo nb++work) ((i,nb)::seen))=some out:=h;rcases Es i seen with h1 | h1;rw [h1] at h;exact ih work seen out (λj hj=>hw j (by simp [hj])) hs h;cases hb:Gv i seen with
   | true=>rw [hb] at h;exact ih work seen out (λj hj=>hw j (by simp [hj])) hs h
   | false=>rw [hb] at h;obtain⟨b,h2,h⟩:=C8 h;obtain⟨nb,h3,h⟩:=C8 h;refine ih _ _ out (λj hj=>?_) ⟨λp hp=>?_,?_⟩ h;rcases aaF.1 hj with hj | hj;exact XY lo nb j hj;exact hw j (by simp [hj]);rcases Z7.1 hp with rfl | hp;exact⟨hw i (by simp),b,h2,h3⟩;exact hs.1 p hp;rw [aaZ];exact afp.2 ⟨h1,hs.2⟩
theorem zl (i:Nat):∀(l:List Nat) (k j:Nat),placeOf i l k=some j->k<=j∧l[j-k]?=some i
 | [],k,j,h=>by cases h
 | x::l,k,j,h=>by
  have h:bi (Nat.beq x i) (some k) (placeOf i l (k+1))=some j:=h;cases hb:Nat.beq x i with
  | true=>rw [hb] at h;cases h;rw [J4 hb];simp
  | false=>rw [hb] at h;obtain⟨h1,h2⟩:=zl i l (k+1) j h;exact⟨by omega,by rw [show j-k=(j-(k+1))+1 from by omega];simpa using h2⟩
theorem Hw {lo i j:Nat}{ids:List Nat}(h:xk lo ids i=some j):(i<lo∧j=i)∨(lo<=i∧lo<=j∧ids[j-lo]?=some i):=by
 unfold xk at h;cases hb:Nat.ble lo i with
 | true=>rw [hb] at h;obtain⟨h1,h2⟩:=zl i ids lo j h;exact .inr ⟨Y2 hb,h1,h2⟩
 | false=>rw [hb] at h;have h:some i=some j:=h;cases h;exact .inl ⟨Nat.lt_of_not_le (GN hb),rfl⟩
theorem rW {m:Mem}{lo:Nat}{vs:List j3}{c:CO}(h:iX lo vs m=some c):∃seen,Good m lo seen∧c.ids=seen.map (·.1)∧kH (xk lo c.ids) vs=some c.vs∧sJ (xk lo c.ids) (seen.map (·.2))=some c.bs:=by obtain⟨seen,h1,h⟩:=C8 h;obtain⟨xs,h2,h⟩:=C8 h;obtain⟨bs,h3,h⟩:=C8 h;cases h;exact⟨seen,Pb _ _ _ _ (vS lo vs) ⟨(λp (hp:p∈([]:List (Nat×NB)))=>by cases hp),(by simp:(([]:List (Nat×NB)).map (·.1)).Nodup)⟩ h1,rfl,h2,h3⟩
theorem MI (b:NB)(bs:List NB)(m:Mem):layAll (b::bs) m=layAll bs (m.new (dQ b)):=rfl
theorem pR:∀(bs:List NB) (m:Mem),T.Ok m.t m.nx->T.Ok (layAll bs m).t (layAll bs m).nx∧(layAll bs m).nx=m.nx+bs.length∧(layAll bs m).lim=m.lim∧
  ∀i,(layAll bs m).get i=if i<m.nx then m.get i else (bs[i-m.nx]?).map dQ
 | [],m,h=>by
  refine⟨h,rfl,rfl,λi=>?_⟩;show m.get i=_;split;rfl;rename_i hi;cases hg:m.get i with
  | none=>simp
  | some x=>exact absurd (Mem.I8 h hg) hi
 | b::bs,m,h=>by obtain⟨h1,h2,h3,h4⟩:=pR bs (m.new (dQ b)) (h.push _);rw [MI];refine⟨h1,by rw [h2];simp;omega,h3,λi=>?_⟩;rw [h4,Mem.Lm,Mem.N7 h];by_cases hi:i<m.nx;rw [if_pos (by omega),if_neg (by omega),if_pos hi];by_cases he:i=m.nx;subst he;rw [if_pos (by omega),if_pos rfl,if_neg (by omega)];simp;rw [if_neg (by omega),if_neg hi,show i-m.nx=(i-(m.nx+1))+1 from by omega];simp
end
section
variable {P:Program}{G:Mem}{ι:K4}{m:Mem}{w:World}
structure Et (G:Mem)(CG:List NB):Prop where
 ok:T.Ok G.t G.nx
 len:CG.length=G.nx
 get:∀i,i<G.nx->G.get i=(CG[i]?).map dQ
 shut:∀nb∈CG,oQ (λi=>bi (Nat.blt i G.nx) (some i) none) nb=some nb
noncomputable abbrev O5 (G:Mem)(bs:List NB):Mem:=(layAll bs G).shut
def jC (P:Program)(G:Mem)(f:FuncId)(args:List j3)(bs:List NB)(a:AZ):Prop:=
 ∀(ι:K4) (w:World),RM P G ι (O5 G bs) w.heap->aS ((O5 G bs).nm ι) args->
  CallsIn Fence.wide 0 P f (y7 ι args).toArray w λe w'=>∃ι' r,Step P G ι (O5 G bs) w ι' r.m w'∧r.v.lt (r.m.nm ι')∧e=.returned (o8 ι' r.v)∧wI (layAll bs G).nx r=some a
theorem Bz:∀a b:List (List j3),zX a b=true->a=b
 | [],[],_=>rfl
 | [],_ :: _,h=>by simp only [zX] at h;cases h
 | _ :: _,[],h=>by simp only [zX] at h;cases h
 | x::a,y::b,h=>by simp only [zX] at h;obtain⟨h1,h2⟩:=cu h;rw [kS (jh 100) _ _ h1,Bz a b h2]
theorem Eu:∀a b:List (j3×j3),Gw a b=true->a=b
 | [],[],_=>rfl
 | [],_ :: _,h=>by simp only [Gw] at h;cases h
 | _ :: _,[],h=>by simp only [Gw] at h;cases h
 | x::a,y::b,h=>by simp only [Gw] at h;obtain⟨h1,h2⟩:=cu h;obtain⟨h2,h3⟩:=cu h2;have e1:=jh 100 _ _ h1;have e2:=jh 100 _ _ h2;obtain⟨x1,x2⟩:=x;obtain⟨y1,y2⟩:=y;have e1:x1=y1:=e1;have e2:x2=y2:=e2;rw [e1,e2,Eu a b h3]
theorem Pd:∀a b:NB,Uo a b=true->a=b:=by
 intro a b h;cases a<;>cases b<;>simp only [Uo] at h<;>first | (cases h;done) | skip
 obtain⟨h1,h2⟩:=cu h;rw [J4 h1,Bz _ _ h2];rw [Eu _ _ h];rw [J4 h];rfl
theorem pU:∀a b:List NB,kI a b=true->a=b
 | [],[],_=>rfl
 | [],_ :: _,h=>by simp only [kI] at h;cases h
 | _ :: _,[],h=>by simp only [kI] at h;cases h
 | x::a,y::b,h=>by simp only [kI] at h;obtain⟨h1,h2⟩:=cu h;rw [Pd _ _ h1,pU a b h2]
theorem uP {lo:Nat}:∀(l:List VM) (a:AZ),Jh lo l=some a->∀r∈l,wI lo r=some a
 | [],a,h,r,hr=>by cases hr
 | [x],a,h,r,hr=>by obtain rfl:=J3.1 hr;obtain⟨b,h1,h2⟩:=C8 h;have h2:some b=some a:=h2;cases h2;exact h1
 | x::y::l,a,h,r,hr=>by obtain⟨b,h1,h2⟩:=C8 h;have h2:(ob (Jh lo (y::l)) λc=>bi (aW 100 b.v c.v) (bi (kI b.bs c.bs) (some b) none) none)=some a:=h2;obtain⟨c,h3,h2⟩:=C8 h2;obtain⟨h4,h2⟩:=D7 h2;obtain⟨h5,h2⟩:=D7 h2;have h2:some b=some a:=h2;cases h2;rcases Z7.1 hr with rfl | hr;exact h1;have:=uP (y::l) c h3 r hr;rw [this];have e1:=jh 100 _ _ h4;have e2:=pU _ _ h5;obtain⟨av,ab⟩:=a;obtain⟨cv,cb⟩:=c;have e1:av=cv:=e1;have e2:ab=cb:=e2;rw [e1,e2]
theorem Pe {cf:F4}(hcf:mU P G cf){dcf:jG}(hdc:XK P G dcf)(hmix:P.follows .mixedOrders=true)(fuel:Nat){f:FuncId}{sf:aT}(hf:oU P f sf){args:List j3}{bs:List NB}{a:AZ}
  (h:(ob (lN cf dcf fuel sf args (O5 G bs)) λl=>Jh (layAll bs G).nx l)=some a):jC P G f args bs a:=by
 intro ι w hm hargs;obtain⟨l,h1,h2⟩:=C8 h;refine (Mf hcf hdc fuel (λslots nt r=>nY hmix hcf slots nt r) hf h1 hm hargs).mono ?_;rintro e w' (⟨v,rfl,r,hr,ι',g1,g2,rfl⟩ | ⟨r,hr,x,ι',hx,_⟩);exact⟨ι',r,g1,g2,rfl,uP l a h2 r hr⟩;exfalso;have h3:=uP l a h2 r hr;obtain⟨co,hco,_⟩:=C8 h3;obtain⟨seen,_,_,h4,_⟩:=rW hco;rw [hx] at h4;simp only [kH] at h4;obtain⟨y,h5,_⟩:=C8 h4;simp only [eB] at h5;cases h5
theorem JL {α:Type}(l:List α):(T.ofList l).slice l.length 0=some l:=by
 have key:∀(k i:Nat),i+k=l.length->(T.ofList l).slice k i=some (l.drop i):=by
  intro k;induction k with
  | zero=>intro i h;rw [T.Dr,abT (by omega)]
  | succ k ih=>
   intro i h;have hi:i<l.length:=by omega
   rw [T.Dt,T.aG,J7 hi,P5,ih (i+1) (by omega),P5,List.getElem_cons_drop]
 exact key l.length 0 (by omega)
theorem Pf (nb:NB):yB (dQ nb)=some nb:=by
 cases nb with
 | cells rs rows=>show (ob ((T.ofList rows).slice (len' rows) 0) λl=>some (NB.cells rs l))=_;rw [I9,JL];rfl
 | map es=>rfl
 | tail p=>rfl
 | dead=>rfl
def fB (g:Nat)(ι:K4)(ids:List Nat):K4:=λi=>if i<g then ι i else ι (ids.getD (i-g) 0)
theorem XZ (hB:∃CG,Et G CG)(hm:RM P G ι m w.heap){vs:List j3}{c:CO}(hc:iX G.nx vs m=some c)(hvs:aS (m.nm ι) vs):
  RM P G (fB G.nx ι c.ids) (O5 G c.bs) w.heap∧aS ((O5 G c.bs).nm (fB G.nx ι c.ids)) c.vs∧y7 (fB G.nx ι c.ids) c.vs=y7 ι vs∧c.bs.length=c.ids.length∧
   (∀(k i:Nat),c.ids[k]?=some i->G.nx<=i∧m.has i)∧(∀i,G.nx<=i->i<(O5 G c.bs).nx->∃j,c.ids[i-G.nx]?=some j):=by
 obtain⟨CG,hB⟩:=hB;obtain⟨seen,⟨hg1,hg2⟩,hids,h3,h4⟩:=rW hc;obtain⟨l1,l2,l3,l4⟩:=pR c.bs G hB.ok;obtain⟨b1,b2⟩:=vR _ _ h4;have hlen:c.bs.length=c.ids.length:=by rw [b1,hids];simp
 have hseen:∀(k i:Nat),c.ids[k]?=some i->G.nx<=i∧∃b nb nb',m.get i=some b∧yB b=some nb∧c.bs[k]?=some nb'∧oQ (xk G.nx c.ids) nb=some nb':=by
  intro k i hk;rw [hids,abY] at hk;cases hp:seen[k]? with
  | none=>rw [hp] at hk;cases hk
  | some p=>
   rw [hp] at hk;have hk:p.1=i:=Y7 hk;obtain⟨q1,b,q2,q3⟩:=hg1 p (Y5 hp);rw [hk] at q1 q2;have hkl:k<c.bs.length:=by rw [hlen,hids,ac1];exact (J5.1 hp).1
   obtain⟨y,q4,q5⟩:=b2 k _ (J7 hkl);rw [abY,hp] at q4;have q4:p.2=y:=Y7 q4;rw [← q4] at q5;exact⟨q1,b,p.2,_,q2,q3,J7 hkl,q5⟩
 have hget:∀i,(O5 G c.bs).get i=if i<G.nx then G.get i else (c.bs[i-G.nx]?).map dQ:=l4
 have hnext:(O5 G c.bs).nx=G.nx+c.bs.length:=l2;have hbase:∀i,i<G.nx->m.get i=G.get i:=hm.base;have hin:∀k i,c.ids[k]?=some i->fB G.nx ι c.ids (G.nx+k)=ι i:=by intro k i hk;unfold fB;rw [if_neg (by omega),show G.nx+k-G.nx=k from by omega,Z8,hk];rfl
 have hlo:∀i,i<G.nx->fB G.nx ι c.ids i=ι i:=λi hi=>if_pos hi;have hr:Bv ι (m.nm ι) (fB G.nx ι c.ids) ((O5 G c.bs).nm (fB G.nx ι c.ids)) (xk G.nx c.ids):=by intro i j hij ⟨y,hy,hyv⟩;rcases Hw hij with⟨h1,rfl⟩ | ⟨h1,h2,h3⟩;refine⟨⟨y,?_,hyv⟩,hlo _ h1,congrArg Loc.cap (hlo _ h1)⟩;rw [hget,if_pos h1,← hbase _ h1];exact hy;have e:=hin (j-G.nx) i h3;rw [show G.nx+(j-G.nx)=j from by omega] at e;obtain⟨_,_,_,nb',_,_,q,_⟩:=hseen (j-G.nx) i h3;refine⟨⟨dQ nb',?_,xQ nb'⟩,e,congrArg Loc.cap e⟩;rw [hget,if_neg (by omega),q];rfl
 have hr0:Bv ι (m.nm ι) (fB G.nx ι c.ids) ((O5 G c.bs).nm (fB G.nx ι c.ids)) (λi=>bi (Nat.blt i G.nx) (some i) none):=by intro i j hij ⟨y,hy,hyv⟩;have hij:bi (Nat.blt i G.nx) (some i) none=some j:=hij;obtain⟨h1,h2⟩:=D7 hij;cases h2;have h1:i<G.nx:=Eq.mp Y8 h1;refine⟨⟨y,?_,hyv⟩,hlo _ h1,congrArg Loc.cap (hlo _ h1)⟩;rw [hget,if_pos h1,← hbase _ h1];exact hy
 obtain⟨v1,v2⟩:=jk hr vs c.vs h3 hvs;have hspot:∀i x,(O5 G c.bs).get i=some x->U2 x=true->(fB G.nx ι c.ids i).spot=none:=by
  intro i b hb hlv;rw [hget] at hb;split at hb;rename_i hi;rw [hlo i hi];exact hm.spot i b (by rw [hbase i hi];exact hb) hlv;rename_i hi;cases hnb:c.bs[i-G.nx]? with
  | none=>rw [hnb] at hb;cases hb
  | some nb=>
   rw [hnb] at hb;have hb:dQ nb=b:=Y7 hb;subst hb;have hk:i-G.nx<c.ids.length:=by have:=(J5.1 hnb).1;omega
   have hkk:=J7 hk;obtain⟨_,bb,nb0,nb',q1,q2,q3,q4⟩:=hseen _ _ hkk;rw [hnb] at q3;cases q3;have e:=hin (i-G.nx) _ hkk;rw [show G.nx+(i-G.nx)=i from by omega] at e;rw [e];exact hm.spot _ _ q1 (by rw [← Ep q2 q4];exact hlv)
 refine⟨⟨l1,?_,λi x hi hx=>?_,?_,J2 _,hm.gle,λi hi=>by rw [hget,if_pos hi],λi hi=>?_,λi hi=>?_,λi x hx hl=>?_,hm.gsz⟩,v2,v1,hlen,λk i hk=>?_,λi h1 h2=>?_⟩;intro i b hb;rw [hget] at hb;split at hb;rename_i hi;rw [hlo i hi];have hmb:m.get i=some b:=by rw [hbase i hi];exact hb
 have hb':=hm.blk i b hmb;rw [hB.get i hi] at hb;cases hnb:CG[i]? with
 | none=>rw [hnb] at hb;cases hb
 | some nb=>rw [hnb] at hb;have hb:dQ nb=b:=Y7 hb;subst hb;exact JK hr0 hb' (Pf nb) (hB.shut nb (Y5 hnb))
 rename_i hi;cases hnb:c.bs[i-G.nx]? with
 | none=>rw [hnb] at hb;cases hb
 | some nb=>
  rw [hnb] at hb;have hb:dQ nb=b:=Y7 hb;subst hb;have hk:i-G.nx<c.ids.length:=by have:=(J5.1 hnb).1;omega
  have hkk:=J7 hk;obtain⟨_,bb,nb0,nb',q1,q2,q3,q4⟩:=hseen _ _ hkk;rw [hnb] at q3;cases q3;have e:=hin (i-G.nx) _ hkk;rw [show G.nx+(i-G.nx)=i from by omega] at e;rw [e];exact JK hr (hm.blk _ _ q1) q2 q4
 have:=Mem.I8 (m:=O5 G c.bs) l1 hx;have hi:(O5 G c.bs).nx<=i:=hi;omega;show G.nx<=(O5 G c.bs).nx;rw [hnext];omega;obtain⟨y,h1,h2⟩:=hm.ghas i hi;have hi':i<G.nx:=Xb hi hm.gle;exact⟨y,by rw [hget,if_pos hi',← hbase i hi'];exact h1,h2⟩;rw [hlo i (Xb hi hm.gle)];exact hm.glob i hi;exact hspot i x hx hl;obtain⟨q1,b,nb,_,q2,q3,_⟩:=hseen k i hk;exact⟨q1,b,q2,Sk q3⟩;rw [hnext] at h2;exact⟨_,J7 (by omega)⟩
def eF (next:Nat)(ι ι2:K4)(ids:List Nat):K4:=λi=>if i<next then ι i else ι2 (ids.getD (i-next) 0)
theorem BA {g next i j:Nat}{ids:List Nat}(h:fU g ids next i=some j):
  (i<g∧j=i)∨(g<=i∧i-g<ids.length∧ids[i-g]?=some j)∨(g+ids.length<=i∧j=next+(i-g-ids.length)):=by
 unfold fU at h;rw [I9] at h;cases h1:Nat.blt i g with
 | true=>rw [h1] at h;have h:some i=some j:=h;cases h;exact .inl ⟨Eq.mp Y8 h1,rfl⟩
 | false=>
  rw [h1] at h;have h1:=jA h1;cases h2:Nat.blt (Nat.sub i g) ids.length with
  | true=>rw [h2] at h;have h:mK (i-g) ids=some j:=h;rw [iY] at h;exact .inr (.inl ⟨h1,Eq.mp Y8 h2,h⟩)
  | false=>rw [h2] at h;have h2:ids.length<=i-g:=jA h2;have h:some (next+(i-g-ids.length))=some j:=h;cases h;exact .inr (.inr ⟨by omega,rfl⟩)
theorem MJ (hB:∃CG,Et G CG){f:FuncId}{args:List j3}{c:CO}{a:AZ}{v:j3}{bs:List NB}(hm:RM P G ι m w.heap)(hargs:aS (m.nm ι) args)(hc:iX G.nx args m=some c)(ha:jC P G f c.vs c.bs a)
  (hv:eB (fU G.nx c.ids m.nx) a.v=some v) (hbs:sJ (fU G.nx c.ids m.nx) a.bs=some bs):
  CallsIn Fence.wide 0 P f (y7 ι args).toArray w (P8 P G ι m w [⟨v,layAll bs m⟩]):=by
 have hBok:T.Ok G.t G.nx:=by obtain⟨CG,hB⟩:=hB;exact hB.ok
 obtain⟨hm1,hargs1,hconc,hlen,hidh,hidx⟩:=XZ hB hm hc hargs;have hcall:=ha (fB G.nx ι c.ids) w hm1 hargs1;rw [hconc] at hcall;refine hcall.mono ?_;rintro e w' ⟨ι2,r,hst,hrv,rfl,hans⟩;obtain⟨co,hco,hans⟩:=C8 hans;obtain⟨seen,⟨hg1,hg2⟩,hids,h3,h4⟩:=rW hco;have hvs:∃u,co.vs=[u]∧eB (xk (layAll c.bs G).nx co.ids) r.v=some u:=by simp only [kH] at h3;obtain⟨x,h5,h3⟩:=C8 h3;obtain⟨y,h6,h3⟩:=C8 h3;cases h6;have h3:some [x]=some co.vs:=h3;exact⟨x,(Y7 h3).symm,h5⟩
 obtain⟨u,hu,hru⟩:=hvs;rw [hu] at hans;have hans:some (⟨u,co.bs⟩:AZ)=some a:=hans;cases hans;obtain⟨b1,b2⟩:=vR _ _ h4;obtain⟨b3,b4⟩:=vR _ _ hbs;obtain⟨l1,l2,l3,l4⟩:=pR c.bs G hBok;obtain⟨k1,k2,k3,k4⟩:=pR bs m hm.ok;have hlo:(O5 G c.bs).lim=(layAll c.bs G).nx:=rfl;have hlolen:(layAll c.bs G).nx=G.nx+c.ids.length:=by rw [l2,hlen]
 have hno:∀b,¬ Lj (fB G.nx ι c.ids) (O5 G c.bs) b:=by rintro b ⟨i,x,hi,hx,_,_⟩;have:=Mem.I8 (m:=O5 G c.bs) hm1.ok hx;have hi:(O5 G c.bs).nx<=i:=hi;omega
 have hheap:∀b,b<w.heap.size->w'.heap[b]?=w.heap[b]?:=λb hb=>hst.frame b hb (hno b);have hnewloc:∀i x,(layAll c.bs G).nx<=i->r.m.get i=some x->U2 x=true->w.heap.size<=(ι2 i).b:=by intro i x hi hx hl;rcases hst.own _ ⟨i,x,by rw [hst.lim];exact hi,hx,hl,rfl⟩ with h | h;exact absurd h (hno _);exact h
 have hseen:∀(k i:Nat),co.ids[k]?=some i->(layAll c.bs G).nx<=i∧∃b nb nb',r.m.get i=some b∧yB b=some nb∧bs[k]?=some nb'∧
   oQ (λi=>ob (xk (layAll c.bs G).nx co.ids i) (fU G.nx c.ids m.nx)) nb=some nb':=by
  intro k i hk;have hk':=hk;rw [hids,abY] at hk;cases hp:seen[k]? with
  | none=>rw [hp] at hk;cases hk
  | some p=>
   rw [hp] at hk;have hk:p.1=i:=Y7 hk;obtain⟨q1,b,q2,q3⟩:=hg1 p (Y5 hp);rw [hk] at q1 q2;have hkl:k<co.bs.length:=by rw [b1,ac1];exact (J5.1 hp).1
   have hkl2:k<bs.length:=by rw [b3];exact hkl
   obtain⟨y,q4,q5⟩:=b2 k _ (J7 hkl);obtain⟨z,q6,q7⟩:=b4 k _ (J7 hkl2);have q6:co.bs[k]?=some z:=q6;rw [J7 hkl] at q6;cases q6;rw [abY,hp] at q4;have q4:p.2=y:=Y7 q4;rw [← q4] at q5;exact⟨q1,b,p.2,_,q2,q3,J7 hkl2,Sl q5 q7⟩
 have hbl:bs.length=co.ids.length:=by rw [b3];show co.bs.length=_;rw [b1,hids];simp
 have hget:∀i,(layAll bs m).get i=if i<m.nx then m.get i else (bs[i-m.nx]?).map dQ:=k4
 have hold:∀i,i<m.nx->eF m.nx ι ι2 co.ids i=ι i:=λi hi=>if_pos hi;have hnew:∀k i,co.ids[k]?=some i->eF m.nx ι ι2 co.ids (m.nx+k)=ι2 i:=by intro k i hk;unfold eF;rw [if_neg (by omega),show m.nx+k-m.nx=k from by omega,Z8,hk];rfl
 have hlt:∀i x,m.get i=some x->i<m.nx:=λi x hx=>Mem.I8 hm.ok hx;have hhas:∀i,m.has i->(layAll bs m).has i:=λi ⟨x,h1,h2⟩=>⟨x,by rw [hget,if_pos (hlt i x h1)];exact h1,h2⟩;have hext:∀i,m.has i->eF m.nx ι ι2 co.ids i=ι i:=λi ⟨x,h1,_⟩=>hold i (hlt i x h1);have hGm:G.nx<=m.nx:=Xl hm.glim hm.limn;have hr:Bv ι2 (r.m.nm ι2) (eF m.nx ι ι2 co.ids) ((layAll bs m).nm (eF m.nx ι ι2 co.ids)) (λi=>ob (xk (layAll c.bs G).nx co.ids i) (fU G.nx c.ids m.nx)):=by
  intro i j hij ⟨y,hy,hyv⟩;obtain⟨t,h5,h6⟩:=C8 hij;have fin:(layAll bs m).has j∧eF m.nx ι ι2 co.ids j=ι2 i->((layAll bs m).nm (eF m.nx ι ι2 co.ids)) j∧eF m.nx ι ι2 co.ids j=ι2 i∧((layAll bs m).nm (eF m.nx ι ι2 co.ids)).cap j=(r.m.nm ι2).cap i:=
   λ⟨p,q⟩=>⟨p,q,congrArg Loc.cap q⟩
  rcases Hw h5 with⟨h7,rfl⟩ | ⟨h7,h8,h9⟩
  ·
   have hcan:(O5 G c.bs).get t=some y:=by rw [← hst.old t h7];exact hy
   have hι2:ι2 t=fB G.nx ι c.ids t:=hst.ext t ⟨y,hcan,hyv⟩;rcases BA h6 with⟨h10,rfl⟩ | ⟨h10,h11,h12⟩ | ⟨h10,_⟩;have hmj:m.has j:=by
    refine⟨y,?_,hyv⟩;have h13:(O5 G c.bs).get j=if j<G.nx then G.get j else (c.bs[j-G.nx]?).map dQ:=l4 j
    rw [h13,if_pos h10] at hcan;rw [hm.base j h10];exact hcan
   exact fin ⟨hhas j hmj,by rw [hext j hmj,hι2];exact (if_pos h10).symm⟩;obtain⟨_,hmj⟩:=hidh _ _ h12;refine fin ⟨hhas j hmj,?_⟩;rw [hext j hmj,hι2];unfold fB;rw [if_neg (by omega),Z8,h12];rfl;omega
  ·
   rcases BA h6 with⟨h10,_⟩ | ⟨h10,h11,_⟩ | ⟨h10,rfl⟩;omega;omega;have e:t-G.nx-c.ids.length=t-(layAll c.bs G).nx:=by omega
   obtain⟨_,_,_,nb',_,_,q,_⟩:=hseen _ _ h9;refine fin ⟨⟨dQ nb',?_,xQ nb'⟩,by rw [e];exact hnew _ _ h9⟩;rw [e,hget,if_neg (by omega),show m.nx+(t-(layAll c.bs G).nx)-m.nx=t-(layAll c.bs G).nx from by omega,q];rfl
 obtain⟨v1,v2⟩:=nZ hr r.v v (qK _ _ _ hru hv) hrv;have hcase:∀i x,(layAll bs m).get i=some x->(i<m.nx∧m.get i=some x)∨∃k id b,i=m.nx+k∧co.ids[k]?=some id∧r.m.get id=some b∧(layAll c.bs G).nx<=id∧U2 x=U2 b∧
   bP P (eF m.nx ι ι2 co.ids) ((layAll bs m).nm (eF m.nx ι ι2 co.ids)) w'.heap (ι2 id) x:=by
  intro i x hx;rw [hget] at hx;split at hx;exact .inl ⟨by assumption,hx⟩;rename_i hi;cases hnb:bs[i-m.nx]? with
  | none=>rw [hnb] at hx;cases hx
  | some nb=>
   rw [hnb] at hx;have hx:dQ nb=x:=Y7 hx;subst hx;have hk:i-m.nx<co.ids.length:=by have:=(J5.1 hnb).1;omega
   have hkk:=J7 hk;obtain⟨q0,b,nb0,nb',q1,q2,q3,q4⟩:=hseen _ _ hkk;rw [hnb] at q3;cases q3;exact .inr ⟨i-m.nx,_,b,by omega,hkk,q1,q0,Ep q2 q4,JK hr (hst.rm.blk _ _ q1) q2 q4⟩
 refine .inl ⟨o8 ι2 r.v,rfl,⟨v,layAll bs m⟩,J3.2 rfl,eF m.nx ι ι2 co.ids,?_,v2,v1.symm⟩;refine⟨⟨k1,?_,?_,by rw [k3];exact hm.glim,by rw [k3,k2];exact Xl hm.limn (by omega),hm.gle,λi hi=>by rw [hget,if_pos (by omega)];exact hm.base i hi,λi hi=>hhas i (hm.ghas i hi),
  λi hi=>by rw [hext i (hm.ghas i hi)];exact hm.glob i hi,λi x hx hl=>by
   rcases hcase i x hx with⟨h1,h2⟩ | ⟨k,id,b,rfl,h2,h3,_,h5,_⟩;rw [hold i h1];exact hm.spot i x h2 hl;rw [hnew k id h2];exact hst.rm.spot id b h3 (by rw [← h5];exact hl),hst.rm.gsz⟩,hext,hhas,by rw [k2];omega,k3,λi hi=>by rw [hget,if_pos (by have:=hm.limn;omega)],hst.size,λb hb _=>hheap b hb,?_,hst.os,hst.out,hst.tape⟩
 intro i x hx;rcases hcase i x hx with⟨h1,h2⟩ | ⟨k,id,b,rfl,h2,h3,_,_,h4⟩;rw [hold i h1];exact (hm.blk i x h2).mono (n:=m.nm ι) hext (Mem.ah hhas hext) λhl=>hheap _ (dD (hm.blk i x h2) hl);rw [hnew k id h2];exact h4;intro i x hi hx hl;rw [k3] at hi;rcases hcase i x hx with⟨h1,h2⟩ | ⟨k,id,b,rfl,h2,h3,h4,h5,h6⟩;have ho:=hm.own i x hi h2 hl;have hb:=dD (hm.blk i x h2) hl;refine⟨λj y hj hy hly=>?_,λc e fz hcc=>?_⟩;rcases hcase j y hy with⟨g1,g2⟩ | ⟨k',id',b',rfl,g2,g3,g4,g5,g6⟩;rw [hold j g1,hold i h1];exact ho.alone j y hj g2 hly;rw [hnew k' id' g2,hold i h1];have:=hnewloc id' b' g4 g3 (by rw [← g5];exact hly);omega;rw [hold i h1,hheap _ hb] at hcc;exact ho.free c e fz hcc;have hlb:U2 b=true:=by rw [← h5];exact hl
 have ho:=hst.rm.own id b (by rw [hst.lim];exact h4) h3 hlb;have hn:=hnewloc id b h4 h3 hlb;refine⟨λj y hj hy hly=>?_,λc e fz hcc=>?_⟩;rw [hnew k id h2];rcases hcase j y hy with⟨g1,g2⟩ | ⟨k',id',b',rfl,g2,g3,g4,g5,g6⟩;rw [hold j g1];have:=dD (hm.blk j y g2) hly;omega;rw [hnew k' id' g2];refine ho.alone id' b' (λe=>hj ?_) g3 (by rw [← g5];exact hly);subst e;have hnd:co.ids.Nodup:=by rw [hids];exact hg2
 have:k'=k:=(aeb (J5.1 g2).1 hnd).1 (g2.trans h2.symm);rw [this];rw [hnew k id h2] at hcc;exact ho.free c e fz hcc;rintro b ⟨i,x,hi,hx,hl,rfl⟩;rw [k3] at hi;rcases hcase i x hx with⟨h1,h2⟩ | ⟨k,id,bb,rfl,h2,h3,h4,h5,h6⟩;rw [hold i h1];exact .inl ⟨i,x,hi,h2,hl,rfl⟩;rw [hnew k id h2];exact .inr (hnewloc id bb h4 h3 (by rw [← h5];exact hl))
end
section
variable {P:Program}
structure Sum where
 f:FuncId
 args:List j3
 bs:List NB
 a:AZ
noncomputable def sumOf (l:List Sum)(f:FuncId)(args:List j3)(bs:List NB):Option AZ:=
 List.rec none (λs _ ih=>bi (Nat.beq s.f f) (bi (wm (aW 100) s.args args) (bi (kI s.bs bs) (some s.a) ih) ih) ih) l
theorem xR {G:Mem}:∀(l:List Sum),(∀s∈l,jC P G s.f s.args s.bs s.a)->∀f args bs a,sumOf l f args bs=some a->jC P G f args bs a
 | [],_,f,args,bs,a,h=>by cases h
 | s::l,hl,f,args,bs,a,h=>by
  have ih:=xR l (λs hs=>hl s (by simp [hs])) f args bs a;have h:bi (Nat.beq s.f f) (bi (wm (aW 100) s.args args) (bi (kI s.bs bs) (some s.a) (sumOf l f args bs)) (sumOf l f args bs)) (sumOf l f args bs)=some a:=h;cases h1:Nat.beq s.f f with
  | false=>rw [h1] at h;exact ih h
  | true=>
   rw [h1] at h;cases h2:wm (aW 100) s.args args with
   | false=>rw [h2] at h;exact ih h
   | true=>
    rw [h2] at h;cases h3:kI s.bs bs with
    | false=>rw [h3] at h;exact ih h
    | true=>rw [h3] at h;have h:some s.a=some a:=h;cases h;rw [← J4 h1,← kS (jh 100) _ _ h2,← pU _ _ h3];exact hl s (by simp)
structure Vk (P:Program)(K:Known):Prop where
 mix:P.follows .mixedOrders=true
 fns:∀f sf,K.fns f=some sf->oU P f sf
 base:∃CG,Et K.base CG
 sum:∀f args bs a,K.sum f args bs=some a->jC P K.base f args bs a
 eff:∀{f:FuncId} {args:List j3} {m:Mem} {outs:List VM},K.eff f args m=some outs->Aj P f∧∀{ι:K4} {w:World},RM P K.base ι m w.heap->aS (m.nm ι) args->
  CallsIn Fence.wide 0 P f (y7 ι args).toArray w (P8 P K.base ι m w outs)
theorem uQ (K:Known)(fuel:Nat)(fn:Fn)(args:List j3)(m:Mem):o9 K fuel 0 fn args m=none:=rfl
theorem dI (K:Known)(fuel n:Nat)(fn:Fn)(args:List j3)(m:Mem):o9 K fuel (n+1) fn args m=match fn with
  | .func f=>Option.rec (ob (K.fns f) λsf=>bi sf.pure (iL K (o9 K fuel n) fuel f sf args m) (lN (o9 K fuel n) (pq K (o9 K fuel n) fuel) fuel sf args m)) (λl=>some l) (K.eff f args m)
  | .yield l=>Ji (o9 K fuel n) fuel l args m
  | _=>none:=rfl
theorem MK {K:Known}(hK:Vk P K){cf:F4}(hcf:mU P K.base cf){fuel:Nat}{f:FuncId}{sf:aT}(hf:oU P f sf){args:List j3}{bs:List NB}{a:AZ}(h:Ba K cf fuel f sf args bs=some a):jC P K.base f args bs a:=by
 unfold Ba at h;cases hs:K.sum f args bs with
 | some b=>rw [hs] at h;have h:some b=some a:=h;cases h;exact hK.sum f args bs _ hs
 | none=>rw [hs] at h;exact Pe hcf (Ht hK.fns hcf fuel λslots nt r=>nY hK.mix hcf slots nt r) hK.mix fuel hf h
theorem Av {K:Known}(hK:Vk P K)(fuel:Nat):∀n,mU P K.base (o9 K fuel n):=by
 intro n;induction n with
 | zero=>exact⟨(λh=>by rw [uQ] at h;cases h),(λh=>by rw [uQ] at h;cases h),(λh=>by rw [uQ] at h;cases h)⟩
 | succ n ih=>
  refine⟨λ{f args m outs} h=>?_,λ{l args m outs} h {ι w} hm hargs=>?_,λ{fn args m outs} h=>?_⟩
  ·rw [dI] at h;have h:(Option.rec (ob (K.fns f) λsf=>bi sf.pure (iL K (o9 K fuel n) fuel f sf args m) (lN (o9 K fuel n) (pq K (o9 K fuel n) fuel) fuel sf args m)) (λl=>some l) (K.eff f args m):bX)=some outs:=h;cases he:K.eff f args m with
   | some l=>rw [he] at h;have h:some l=some outs:=h;cases h;exact hK.eff he
   | none=>
   rw [he] at h;have h:(ob (K.fns f) λsf=>bi sf.pure (iL K (o9 K fuel n) fuel f sf args m) (lN (o9 K fuel n) (pq K (o9 K fuel n) fuel) fuel sf args m))=some outs:=h;obtain⟨sf,h1,h⟩:=C8 h;have hf:=hK.fns f sf h1;refine⟨hf.ok,λ{ι w} hm hargs=>?_⟩;cases hp:sf.pure with
   | false=>rw [hp] at h;exact Mf ih (Ht hK.fns ih fuel λslots nt r=>nY hK.mix ih slots nt r) fuel (λslots nt r=>nY hK.mix ih slots nt r) hf h hm hargs
   | true=>rw [hp] at h;have h:iL K (o9 K fuel n) fuel f sf args m=some outs:=h;obtain⟨c,h2,h⟩:=C8 h;obtain⟨a,h3,h⟩:=C8 h;obtain⟨v,h4,h⟩:=C8 h;obtain⟨bs,h5,h⟩:=C8 h;cases h;exact MJ hK.base hm hargs h2 (MK hK ih hf h3) h4 h5
  rw [dI] at h;exact Me ih fuel (λslots nt r=>nY hK.mix ih slots nt r) h hm hargs;rw [dI] at h;cases fn with
  | func f=>exact .inl ⟨f,rfl⟩
  | yield l=>exact .inr ⟨l,rfl⟩
  | _=>cases h
theorem Pg {K:Known}(hK:Vk P K){fuel n:Nat}{f:FuncId}{sf:aT}(hf:oU P f sf){args:List j3}{bs:List NB}{a:AZ}(h:Ba K (o9 K fuel n) fuel f sf args bs=some a):jC P K.base f args bs a:=
 MK hK (Av hK fuel n) hf h
end
noncomputable def Sn (pure rc:Bool)(a:AFn):aT:=⟨pure,a.args,a.nslots,a.results,vK a.body,bif rc then some a.body else none⟩
theorem Qt {P:Program}{slots:List Nat}{f:FuncId}{a:AFn}(h:Oo P slots f=some a)(pure rc:Bool):oU P f (Sn pure rc a):=by
 unfold Oo at h;split at h;cases h;rename_i fn hfn;split at h;cases h;rename_i c hc;split at h;rename_i b r hb hr;split at h;rename_i hok;cases h;simp only [U9,bne_iff_ne,ne_eq] at hok;obtain⟨⟨⟨h1,h2⟩,h3⟩,h4⟩:=hok;refine⟨⟨fn,hfn,by rw [hc];rfl,h4⟩,slots,fn,c,b,r,hfn,hc,hb,hr,h1,λt ht=>?_,?_,rfl,rfl,rfl,rfl,λc' hc'=>?_⟩;exact Eq.mp Y8 (ace.1 h2 t ht);have:slots.length<1152921504606846976:=Eq.mp Y8 h3;exact this;cases rc with
 | true=>exact (Y7 hc').symm
 | false=>cases hc'
 cases h;cases h
theorem JM {P:Program}{slots:List Nat}{f:FuncId}{pure rc:Bool}{sf:aT}(h:(Oo P slots f).map (Sn pure rc)=some sf):oU P f sf:=by
 cases hc:Oo P slots f with
 | none=>rw [hc] at h;cases h
 | some a=>rw [hc] at h;cases h;exact Qt hc pure rc
end Go.AM
namespace Go.AM
open Go
noncomputable section
def TOk (P:Program)(r:Nat->Nat)(t:T (Option aT)):Prop:=∀i sf,t.get i=some (some sf)->oU P (r i) sf
theorem ajn {P:Program}{r:Nat->Nat}:TOk P r .e:=λi sf h=>by cases h
def OOk (P:Program)(i:Nat)(o:Option aT):Prop:=∀sf,o=some sf->oU P i sf
theorem ajp {P:Program}{i:Nat}:OOk P i none:=λ_ h=>by cases h
theorem ajq {P:Program}{i:Nat}{sf:aT}(h:oU P i sf):OOk P i (some sf):=λ_ e=>by cases e;exact h
theorem aez {P:Program}{r:Nat->Nat}{a b:T (Option aT)}{x:Option aT}(ha:TOk P (λi=>r (2*i+1)) a)(hx:OOk P (r 0) x)(hb:TOk P (λi=>r (2*i+2)) b):TOk P r (.nd a x b):=by
 intro i sf h;cases i with
 | zero=>exact hx sf (Y7 h)
 | succ j=>
  have h:(Nat.rec (a.get (Nat.div j 2)) (λ_ _=>b.get (Nat.div j 2)) (Nat.mod j 2):Option (Option aT))=some (some sf):=h;rcases abU j with h2 | h2;have h2':Nat.mod j 2=0:=h2;rw [h2'] at h;have:=ha _ sf h;have e:2*Nat.div j 2+1=j+1:=by have:Nat.div j 2=j / 2:=rfl;omega
  have this:oU P (r (2*Nat.div j 2+1)) sf:=this;rw [e] at this;exact this;have h2':Nat.mod j 2=1:=h2;rw [h2'] at h;have:=hb _ sf h;have e:2*Nat.div j 2+2=j+1:=by have:Nat.div j 2=j / 2:=rfl;omega
  have this:oU P (r (2*Nat.div j 2+2)) sf:=this;rw [e] at this;exact this
section
variable {α β γ:Type}
@[simp] theorem aho (a:α)(f:α->Option (List β)):bnd (some [a]) f=f a:=_root_.id rfl
@[simp] theorem ajr (f:α->Option (List β)):bnd (none:Option (List α)) f=none:=_root_.id rfl
@[simp] theorem aeA (a:α)(f:α->Option β):Oh (some [a]) f=f a:=_root_.id rfl
@[simp] theorem aa5 (a:α)(z:β)(f:α->β):(Option.rec z (λv=>f v) (some a):β)=f a:=_root_.id rfl
@[simp] theorem aa6 (z:β)(f:α->β):(Option.rec z (λv=>f v) none:β)=z:=_root_.id rfl
end
section
variable (k:IntKind)(b:Bool)(n:Int)(s:List UInt8)(i o l c:Nat)(v:j3)(as bs:List j3)(fn:Fn){β:Type}
@[simp] theorem ad8 (p:j3->β)(q:β):dx (.bool b) p q=q:=_root_.id rfl
@[simp] theorem aeB (p:j3->β)(q:β):dx (.int k n) p q=q:=_root_.id rfl
@[simp] theorem aeC (p:j3->β)(q:β):dx (.str s) p q=q:=_root_.id rfl
@[simp] theorem aa7 (p:j3->β)(q:β):dx .nilPtr p q=q:=_root_.id rfl
@[simp] theorem aeD (p:j3->β)(q:β):dx (.ptr i o) p q=q:=_root_.id rfl
@[simp] theorem WR (p:j3->β)(q:β):dx .nilSlice p q=q:=_root_.id rfl
@[simp] theorem abe (p:j3->β)(q:β):dx (.slice i o l c) p q=q:=_root_.id rfl
@[simp] theorem aa8 (p:j3->β)(q:β):dx (.sliceU i o l c) p q=q:=_root_.id rfl
@[simp] theorem aa9 (p:j3->β)(q:β):dx .nilMap p q=q:=_root_.id rfl
@[simp] theorem aeE (p:j3->β)(q:β):dx (.map i) p q=q:=_root_.id rfl
@[simp] theorem Ya (p:j3->β)(q:β):dx .nilFunc p q=q:=_root_.id rfl
@[simp] theorem ad9 (p:j3->β)(q:β):dx (.func fn as bs) p q=q:=_root_.id rfl
@[simp] theorem WS (p:j3->β)(q:β):dx .nilIface p q=q:=_root_.id rfl
@[simp] theorem abf (p:j3->β)(q:β):dx (.iface i v) p q=q:=_root_.id rfl
@[simp] theorem aeF (p:j3->β)(q:β):dx (.agg as) p q=q:=_root_.id rfl
@[simp] theorem abg (p:j3->β)(q:β):dx (.tuple as) p q=q:=_root_.id rfl
@[simp] theorem abh (p:j3->β)(q:β):dx .undef p q=q:=_root_.id rfl
@[simp] theorem aeG (p:j3->β)(q:β):dx (.mZ v) p q=p v:=_root_.id rfl
end
@[simp] theorem ajs (x:j3)(ls:List j3)(env:T j3):G6 (x::ls) env=x:=_root_.id rfl
@[simp] theorem ajt (a x:j3)(ls:List j3)(env:T j3):bV (a::x::ls) env=x:=_root_.id rfl
@[simp] theorem aju (a b x:j3)(ls:List j3)(env:T j3):dw (a::b::x::ls) env=x:=_root_.id rfl
@[simp] theorem ajv (a b c x:j3)(ls:List j3)(env:T j3):lK (a::b::c::x::ls) env=x:=_root_.id rfl
@[simp] theorem ahp (k:Nat)(ls:List j3)(env:T j3):bU k ls env=ls[k]?.getD .undef:=Us k ls
@[simp] theorem ahq (v:j3)(ls:List j3)(env:T j3):D8 v ls env=v:=_root_.id rfl
@[simp] theorem aeH (g:T j3->j3)(ls:List j3)(env:T j3):I7 g ls env=g env:=_root_.id rfl
@[simp] theorem anq (l r:T j3)(x:j3):gH (.nd l x r)=x:=_root_.id rfl
@[simp] theorem anr (g:T j3->j3)(l r:T j3)(x:j3):gL g (.nd l x r)=g l:=_root_.id rfl
@[simp] theorem ant (g:T j3->j3)(l r:T j3)(x:j3):gR g (.nd l x r)=g r:=_root_.id rfl
@[simp] theorem anu (v:j3)(l r:T j3)(x:j3):sH v (.nd l x r)=.nd l v r:=_root_.id rfl
@[simp] theorem anv (s:j3->T j3->T j3)(v:j3)(l r:T j3)(x:j3):sL s v (.nd l x r)=.nd (s v l) x r:=_root_.id rfl
@[simp] theorem anw (s:j3->T j3->T j3)(v:j3)(l r:T j3)(x:j3):sR s v (.nd l x r)=.nd l x (s v r):=_root_.id rfl
@[simp] theorem ajw (v:j3)(t:T j3):K7 v t=t:=_root_.id rfl
@[simp] theorem ahr (ls:List j3)(env:T j3):evs [] ls env=[]:=_root_.id rfl
@[simp] theorem aeI (x:OF)(l:List OF)(ls:List j3)(env:T j3):evs (x::l) ls env=x ls env::evs l ls env:=_root_.id rfl
section
variable {β:Type}(ls:List j3)(env:T j3)(m:Mem)
@[simp] theorem ahs (x:OF):Q5 x ls env=some (x ls env):=_root_.id rfl
@[simp] theorem aeJ (c a b:OF):dZ c a b ls env=nJ (c ls env) λt=>some (bi t (a ls env) (b ls env)):=_root_.id rfl
@[simp] theorem aeK (b:Bool)(k:Bool->Option β):nJ (.bool b) k=k b:=_root_.id rfl
@[simp] theorem aht (k:IntKind)(n:Int)(f:IntKind->Int->Option β):qW (.int k n) f=f k n:=_root_.id rfl
@[simp] theorem Cr (s:List UInt8)(f:List UInt8->Option β):lJ (.str s) f=f s:=_root_.id rfl
@[simp] theorem Qu (i o:Nat)(f:Nat->Nat->Option β):gK (.ptr i o) f=f i o:=_root_.id rfl
@[simp] theorem ahu (l:List j3)(f:List j3->Option β):tF (.agg l) f=f l:=_root_.id rfl
@[simp] theorem ahv (l:List j3)(f:List j3->Option β):KN (.tuple l) f=f l:=_root_.id rfl
@[simp] theorem ahw (i:Nat)(z:Option β)(f:Nat->Option β):wh (.map i) z f=f i:=_root_.id rfl
@[simp] theorem aeL (z:Option β)(f:Nat->Option β):wh .nilMap z f=z:=_root_.id rfl
@[simp] theorem ahx (z:Option β)(f g:Nat->Nat->Nat->Nat->Option β):jV .nilSlice z f g=z:=_root_.id rfl
@[simp] theorem qM (a b c d:Nat)(z:Option β)(f g:Nat->Nat->Nat->Nat->Option β):jV (.slice a b c d) z f g=f a b c d:=_root_.id rfl
@[simp] theorem oh (a b c d:Nat)(z:Option β)(f g:Nat->Nat->Nat->Nat->Option β):jV (.sliceU a b c d) z f g=g a b c d:=_root_.id rfl
@[simp] theorem ahy (fn:Fn)(a b:List j3)(f:Fn->List j3->List j3->Option β):KO (.func fn a b) f=f fn a b:=_root_.id rfl
@[simp] theorem uR (n:Nat)(k:Nat->Option β):KP (n:Int) k=k n:=_root_.id rfl
@[simp] theorem abj (n:Nat)(k:Nat->Option β):KP (.ofNat n) k=k n:=_root_.id rfl
@[simp] theorem ada (k:Nat->Option β):KP 0 k=k 0:=_root_.id rfl
@[simp] theorem aeM (k:Nat->Option β):KP 1 k=k 1:=_root_.id rfl
@[simp] theorem zm (k:IntKind)(n:Int)(f:Nat->Option β):gZ (.int k n) f=KP n f:=_root_.id rfl
@[simp] theorem Ew (k:IntKind):Xj k k=true:=by cases k<;>rfl
@[simp] theorem ajx (f:IB)(g:SB)(x y:OF):V9 f g x y ls env=BP f g (x ls env) (y ls env):=_root_.id rfl
@[simp] theorem aeN (f:IB)(g:SB)(k:IntKind)(a b:Int):BP f g (.int k a) (.int k b)=f k a b:=by show bi (Xj k k) (f k a b) none=_;rw [Ew];rfl
@[simp] theorem aeO (f:IB)(g:SB)(a b:List UInt8):BP f g (.str a) (.str b)=g a b:=_root_.id rfl
@[simp] theorem ahz (x y:OF):aaT x y ls env=Xo (x ls env) (y ls env):=_root_.id rfl
@[simp] theorem ahA (x y:OF):aaU x y ls env=Xp (x ls env) (y ls env):=_root_.id rfl
@[simp] theorem ahB (a b:Int):qc .i64 a b=some (.int .i64 (iU (a+b))):=_root_.id rfl
@[simp] theorem ahC (a b:Int):KR .i64 a b=some (.int .i64 (iU (a-b))):=_root_.id rfl
@[simp] theorem ahD (a b:Int):Xk .i64 a b=some (.int .i64 (iU (a*b))):=_root_.id rfl
@[simp] theorem ajy (k:IntKind)(a b:Int):jW k a b=some (.bool (decide (a=b))):=by show some (j3.bool (aV a b))=_;rw [fF,show (a==b)=decide (a=b) from rfl]
@[simp] theorem ajz (k:IntKind)(a b:Int):KS k a b=some (.bool (!decide (a=b))):=by show some (j3.bool (!aV a b))=_;rw [fF,show (a==b)=decide (a=b) from rfl]
@[simp] theorem ajA (k:IntKind)(a b:Int):NV k a b=some (.bool (decide (a<b))):=by rw [← fG];rfl
@[simp] theorem ajB (k:IntKind)(a b:Int):TW k a b=some (.bool (decide (a<=b))):=by show some (j3.bool (!jF b a))=_;rw [fG,show (!decide (b<a))=decide (a<=b) from by rw [aas];simp]
@[simp] theorem ajC (k:IntKind)(a b:Int):Oe k a b=some (.bool (decide (b<a))):=by rw [← fG];rfl
@[simp] theorem ajD (k:IntKind)(a b:Int):Xm k a b=some (.bool (decide (b<=a))):=by show some (j3.bool (!jF a b))=_;rw [fG,show (!decide (a<b))=decide (b<=a) from by rw [aas];simp]
theorem L8 {n:Int}(h:-9223372036854775808<=n)(h':n<9223372036854775808):iU n=n:=by
 cases n with
 | ofNat m=>show bi (Nat.blt m 9223372036854775808) _ _=_;rw [show Nat.blt m 9223372036854775808=true from Y8.mpr (by simp at h';omega)];rfl
 | negSucc m=>show bi (Nat.blt m 9223372036854775808) _ _=_;rw [show Nat.blt m 9223372036854775808=true from Y8.mpr (by omega)];rfl
@[simp] theorem ajE (f:Ja)(x y:OF):pEq f x y ls env=ob (f (x ls env) (y ls env)) λb=>some (.bool b):=_root_.id rfl
@[simp] theorem ajF (f:Ja)(x y:OF):Xq f x y ls env=ob (f (x ls env) (y ls env)) λb=>some (.bool (!b)):=_root_.id rfl
@[simp] theorem ahE (x:OF):KX x ls env=nJ (x ls env) λb=>some (.bool (!b)):=_root_.id rfl
@[simp] theorem ahF (x:OF):aaW x ls env=qW (x ls env) λk n=>some (yx k (· ^^^ ·) (bi k.signed (-1) k.max) n):=_root_.id rfl
@[simp] theorem ahG (x:OF):aaX x ls env=qW (x ls env) λk n=>some (.int k (sF k (0-n))):=_root_.id rfl
@[simp] theorem aeP (k:IntKind)(x:OF):PW k x ls env=qW (x ls env) λ_ n=>some (.int k (sF k n)):=_root_.id rfl
@[simp] theorem adb (t:TypeId)(x:OF):Jb t x ls env=some (.iface t (x ls env)):=_root_.id rfl
@[simp] theorem aeQ (fn:Fn)(a b:List OF):TY fn a b ls env=some (.func fn (evs a ls env) (evs b ls env)):=_root_.id rfl
@[simp] theorem Yb (x:OF):cB x ls env=zR (x ls env):=_root_.id rfl
@[simp] theorem abk (i o:Nat):zR (.ptr i o)=some (.ptr i o):=_root_.id rfl
@[simp] theorem aac (f:FuncId)(a b:List j3):zR (.func (.func f) a b)=some (.func (.func f) a b):=_root_.id rfl
@[simp] theorem ade (o:Nat)(x:OF):G9 o x ls env=gK (x ls env) λid off=>some (.ptr id (off+o)):=_root_.id rfl
@[simp] theorem aeR (off:Nat)(x:OF):Ub off x ls env=tF (x ls env) λcs=>cs[off]?:=by show tF (x ls env) (λcs=>mK off cs)=_;simp
@[simp] theorem aeS (off k:Nat)(x:OF):Uc off k x ls env=tF (x ls env) λcs=>ob (takeN k (cs.drop off)) λl=>some (.agg l):=by show tF (x ls env) (λcs=>ob (takeN k (jo off cs)) λl=>some (j3.agg l))=_;simp
@[simp] theorem abl {α:Type}(l:List α):takeN 0 l=some []:=_root_.id rfl
@[simp] theorem abm {α:Type}(n:Nat)(x:α)(l:List α):takeN (n+1) (x::l)=ob (takeN n l) λr=>some (x::r):=_root_.id rfl
@[simp] theorem ahH (x:OF)(i:Nat):pExt x i ls env=KN (x ls env) λl=>l[i]?:=by show KN (x ls env) (λl=>mK i l)=_;simp
@[simp] theorem ahI (x:OF):Da x ls env=jV (x ls env) (some (.int .i64 0)) (λ_ _ n _=>some (.int .i64 n)) (λ_ _ n _=>some (.int .i64 n)):=_root_.id rfl
@[simp] theorem aeT (x:OF):Db x ls env=lJ (x ls env) λs=>some (.int .i64 s.length):=by show lJ (x ls env) (λs=>some (j3.int .i64 (.ofNat (len' s))))=_;simp
@[simp] theorem ahJ (x:OF):aaY x ls env=jV (x ls env) (some (.int .i64 0)) (λ_ _ _ c=>some (.int .i64 c)) (λ_ _ _ _=>none):=_root_.id rfl
theorem pV (len i:Nat)(k:Nat->Option β)(h:i<len):idx len (.int .i64 i) k=k i:=by show bi (Nat.blt i len) (k i) none=_;rw [show Nat.blt i len=true from Y8.mpr h];rfl
@[simp] theorem adf (es:Nat)(x i:OF):aY es x i ls env=jV (x ls env) none (λid off len _=>idx len (i ls env) λk=>some (.ptr id (off+k*es)))
  (λid off len _=>idx len (i ls env) λk=>some (.ptr id (off+k*es))):=rfl
@[simp] theorem Yc (es n:Nat)(x i:OF):zT es n x i ls env=gK (x ls env) λid off=>idx n (i ls env) λk=>some (.ptr id (off+k*es)):=_root_.id rfl
@[simp] theorem ahK (cs:List j3):lay [] ls env cs=some cs:=_root_.id rfl
theorem Vl (p:Nat×Nat×OF)(l:List (Nat×Nat×OF))(cs:List j3):lay (p::l) ls env cs =
  bi (Nat.beq (len' (p.2.2 ls env).cells) p.2.1) (bi (Nat.ble (Nat.add p.1 p.2.1) (len' cs)) (lay l ls env (lI p.1 (p.2.2 ls env).cells cs)) none) none:=rfl
@[simp] theorem adg (z:List j3)(ps:List (Nat×Nat×OF)):L6 z ps ls env=ob (lay ps ls env z) λl=>some (.agg l):=_root_.id rfl
def ld1 (b:Option O9)(off:Nat):Option j3:=Q9 b λrs n rows=>cell1 rs n rows off
def Hy (b:Option O9)(off k:Nat):Option j3:=Q9 b λrs n rows=>ob (eU rs n rows off k) λl=>some (.agg l)
def FD (b:Option O9)(off:Nat)(vs:List j3):Option O9:=Q9 b λrs n rows=>ob (aD rs n rows off vs) λrows'=>some (.cells rs n rows')
@[simp] theorem adh (a:OF):qg a ls env m=gK (a ls env) λid off=>ld1 (m.get id) off:=_root_.id rfl
@[simp] theorem adi (k:Nat)(a:OF):aZ k a ls env m=gK (a ls env) λid off=>Hy (m.get id) off k:=_root_.id rfl
@[simp] theorem kT (rs n:Nat)(rows:T (List j3))(k:Nat->Nat->T (List j3)->Option β):Q9 (some (.cells rs n rows)) k=k rs n rows:=_root_.id rfl
@[simp] theorem ajG (es:List (j3×j3))(k:List (j3×j3)->Option β):Od (some (.map es)) k=k es:=_root_.id rfl
theorem vT {rs n:Nat}{rows:T (List j3)}{i j:Nat}{row:List j3}(hj:j<rs)(hi:i<n)(h:rows.get i=some row):cell1 rs n rows (i*rs+j)=row[j]?:=by
 unfold cell1;have h1:Nat.div (i*rs+j) rs=i:=by show (i*rs+j) / rs=i;rw [ae4,Nat.mul_add_div (by omega),aiS hj];rfl
 have h2:Nat.mod (i*rs+j) rs=j:=by show (i*rs+j)%rs=j;rw [ae4,aiY,afM hj]
 rw [h1,h2,h,show Nat.blt i n=true from Y8.mpr hi];exact iY _ _
theorem xS {rs n:Nat}{rows:T (List j3)}{i j k:Nat}{row:List j3}(hj:j<rs)(hi:i<n)(h:rows.get i=some row)(hl:row.length=rs)(hk:j+k<=rs):
  eU rs n rows (i*rs+j) k=some ((row.drop j).take k):=by
 unfold eU;have h1:Nat.div (i*rs+j) rs=i:=by show (i*rs+j) / rs=i;rw [ae4,Nat.mul_add_div (by omega),aiS hj];rfl
 have h2:Nat.mod (i*rs+j) rs=j:=by show (i*rs+j)%rs=j;rw [ae4,aiY,afM hj]
 rw [h1,h2,h,show Nat.blt i n=true from Y8.mpr hi];simp only [P7,P5,gN];cases hz:Nat.beq j 0 with
 | false=>simp only [S9];exact gQ _ _ (by simp;omega)
 | true=>
  have hz:=J4 hz;subst hz;simp only [P7];cases hk':Nat.beq k rs with
  | true=>have hk':=J4 hk';subst hk';simp [hl.symm]
  | false=>simp only [S9,Y3];exact gQ _ _ (by omega)
end
theorem div_lt {a b:Nat}(h:a<b):Nat.div a b=0:=aiS h
theorem mod_lt {a b:Nat}(h:a<b):Nat.mod a b=a:=afM h
@[simp] theorem aeU (cs:List j3)(off:Nat):ld1 (some (j4 cs)) off=cs[off]?:=by
 show cell1 (len' cs) 1 (.nd .e cs .e) off=_;rw [I9];unfold cell1;by_cases h:off<cs.length;rw [div_lt h,mod_lt h];exact iY _ _;rw [show cs[off]?=none from by simp;omega];by_cases h0:cs.length=0;rw [h0,show Nat.div off 0=0 from Nat.div_zero off,show Nat.mod off 0=off from Nat.mod_zero off];show mK off cs=none;rw [iY];simp;omega;have:1<=Nat.div off cs.length:=(Nat.one_le_div_iff (by omega)).2 (by omega);rw [show Nat.blt (Nat.div off cs.length) 1=false from by
  cases hb:Nat.blt (Nat.div off cs.length) 1 with
  | false=>rfl
  | true=>have:=Y8.mp hb;omega]
theorem jS {cs:List j3}{off k:Nat}(h:off+k<=cs.length)(h0:off<cs.length):Hy (some (j4 cs)) off k=some (.agg ((cs.drop off).take k)):=by show ob (eU (len' cs) 1 (.nd .e cs .e) off k) (λl=>some (j3.agg l))=_;have:=xS (rs:=cs.length) (n:=1) (rows:=.nd .e cs .e) (i:=0) (j:=off) (k:=k) (row:=cs) h0 (by omega) rfl rfl h;rw [afo,aav] at this;rw [I9,this];rfl
theorem jT {cs vs:List j3}{off:Nat}(h:off+vs.length<=cs.length)(h0:off<cs.length):FD (some (j4 cs)) off vs=some (j4 (cs.take off++(vs++cs.drop (off+vs.length)))):=by
 show ob (aD (len' cs) 1 (.nd .e cs .e) off vs) (λrows'=>some (O9.cells (len' cs) 1 rows'))=_;have h1:Nat.ble (Nat.add off vs.length) cs.length=true:=Z5 h;have h2:aD cs.length 1 (.nd .e cs .e) off vs=some (T.nd .e (lI off vs cs) .e):=by unfold aD;rw [div_lt h0,mod_lt h0,I9];show bi (Nat.ble (Nat.add off vs.length) cs.length) (some (T.nd .e (lI off vs cs) .e)) none=_;rw [h1];rfl
 rw [I9,h2,lQ off vs cs (by omega)];show some (O9.cells cs.length 1 _)=some (O9.cells (len' _) 1 _);rw [I9];congr 2;simp;omega
def Mem.Ok (m:Mem):Prop:=T.Ok m.t m.nx
theorem Mem.Ok.new {m:Mem}(h:m.Ok)(b:O9):(m.new b).Ok:=T.Ok.push h b
theorem Mem.Ok.set {m:Mem}(h:m.Ok){i:Nat}(hi:i<m.nx)(b:O9):(m.set i b).Ok:=T.Ok.put h i b hi
theorem zn {m:Mem}(h:m.Ok)(b:O9){i:Nat}(hi:i=m.nx):(m.new b).get i=some b:=by rw [Mem.N7 h,if_pos hi]
theorem rX {m:Mem}(h:m.Ok)(b:O9){i:Nat}(hi:i≠m.nx):(m.new b).get i=m.get i:=by rw [Mem.N7 h,if_neg hi]
theorem y8 {m:Mem}(h:m.Ok)(b:O9){i j:Nat}(hj:j<m.nx)(hi:i=j):(m.set j b).get i=some b:=by rw [Mem.Z0 h hj,if_pos hi]
theorem p8 {m:Mem}(h:m.Ok)(b:O9){i j:Nat}(hj:j<m.nx)(hi:i≠j):(m.set j b).get i=m.get i:=by rw [Mem.Z0 h hj,if_neg hi]
theorem kU {β:Type}{m:Mem}{id off:Nat}{vs:List j3}{k:Mem->Option β}(hl:m.lim<=id)(h1:O0 vs=true):storeAt m id off vs k=ob (FD (m.get id) off vs) λb=>k (m.set id b):=by
 unfold storeAt;rw [show Nat.blt id m.lim=false from by
  cases hb:Nat.blt id m.lim with
  | false=>rfl
  | true=>have:=Y8.mp hb;omega,h1]
 simp only [S9,P7];unfold FD;match m.get id with
 | some (.cells rs n rows)=>show ob (aD rs n rows off vs) _=ob (ob (aD rs n rows off vs) _) _;cases aD rs n rows off vs<;>rfl
 | some .void | some .dead | some (.map _) | some (.iter ..) | some (.tail _) | some (.loop ..) | some .deferred | some (.siter ..) | some (.buf ..) | some (.mapU _) | none=>rfl
theorem Sq (sz:Nat)(a x:OF)(cf:F4)(ls:List j3)(env:T j3)(m:Mem):I6 sz a x cf ls env m=gK (a ls env) λid off=>
  bi (Nat.beq (x ls env).cells.length sz) (storeAt m id off (x ls env).cells λm'=>some [⟨.undef,m'⟩]) none:=by
 show gK (a ls env) (λid off=>bi (Nat.beq (len' (x ls env).cells) sz) (storeAt m id off (x ls env).cells λm'=>one .undef m') none)=_;simp only [I9];rfl
@[simp] theorem abn:O0 []=true:=_root_.id rfl
@[simp] theorem dJ (v:j3)(l:List j3):O0 (v::l)=bi (K5 v) (O0 l) false:=_root_.id rfl
section
variable (cf:F4)(ls:List j3)(env:T j3)(m:Mem)(d:j3->T j3->T j3)(k:RC)
@[simp] theorem aeV:r9 cf ls env m=some [⟨env,m,none,[]⟩]:=_root_.id rfl
@[simp] theorem ajH (f:PF):K8 f d k cf ls env m=ob (f ls env) λv=>k cf (v::ls) (d v env) m:=_root_.id rfl
@[simp] theorem ahL (f:PF):o7 f k cf ls env m=ob (f ls env) λv=>k cf (v::ls) env m:=_root_.id rfl
@[simp] theorem ajI (f:RF):rcR f d k cf ls env m=ob (f ls env m) λv=>k cf (v::ls) (d v env) m:=_root_.id rfl
@[simp] theorem ahM (f:RF):F6 f k cf ls env m=ob (f ls env m) λv=>k cf (v::ls) env m:=_root_.id rfl
@[simp] theorem adj:bM m none=m:=_root_.id rfl
@[simp] theorem adk (b:O9):bM m (some b)=m.new b:=_root_.id rfl
@[simp] theorem ajJ (f:LF):fM f d k cf ls env m=ob (f ls env m.nx) λr=>k cf (r.1::ls) (d r.1 env) (bM m r.2):=_root_.id rfl
@[simp] theorem ahN (f:LF):bN f k cf ls env m=ob (f ls env m.nx) λr=>k cf (r.1::ls) env (bM m r.2):=_root_.id rfl
@[simp] theorem abo (f:EF):AX f d k cf ls env m=bnd (f cf ls env m) λr=>dx r.v (λx=>some [⟨env,r.m,some x,[]⟩]) (k cf (r.v::ls) (d r.v env) r.m):=_root_.id rfl
@[simp] theorem JN (f:EF):D5 f k cf ls env m=bnd (f cf ls env m) λr=>dx r.v (λx=>some [⟨env,r.m,some x,[]⟩]) (k cf (r.v::ls) env r.m):=_root_.id rfl
@[simp] theorem adl (z:List j3)(i:Nat):eu z ls env i=some (.ptr i 0,some (j4 z)):=_root_.id rfl
@[simp] theorem ahO (x:OF)(i:Nat):Ri x ls env i=some (.ptr i 0,some (j4 (x ls env).cells)):=_root_.id rfl
@[simp] theorem adn (i:Nat):Dc ls env i=some (.map i,some (.map [])):=_root_.id rfl
@[simp] theorem Aw (l:List j3):(j3.agg l).cells=l:=_root_.id rfl
@[simp] theorem ado (k:IntKind)(n:Int):(j3.int k n).cells=[.int k n]:=_root_.id rfl
@[simp] theorem abp (b:Bool):(j3.bool b).cells=[.bool b]:=_root_.id rfl
@[simp] theorem adp (s:List UInt8):(j3.str s).cells=[.str s]:=_root_.id rfl
@[simp] theorem adq (i o:Nat):(j3.ptr i o).cells=[.ptr i o]:=_root_.id rfl
@[simp] theorem adr (i:Nat):(j3.map i).cells=[.map i]:=_root_.id rfl
@[simp] theorem cells_func (f:Fn)(a b:List j3):(j3.func f a b).cells=[.func f a b]:=_root_.id rfl
@[simp] theorem aad (a b c d:Nat):(j3.slice a b c d).cells=[.slice a b c d]:=_root_.id rfl
@[simp] theorem Yd (a b c d:Nat):(j3.sliceU a b c d).cells=[.sliceU a b c d]:=_root_.id rfl
@[simp] theorem Vm:j3.nilSlice.cells=[.nilSlice]:=_root_.id rfl
@[simp] theorem aeW (f:FuncId)(as:List OF):D6 f as cf ls env m=cf (.func f) (evs as ls env) m:=_root_.id rfl
@[simp] theorem ads (f:OF)(as:List OF):Jd f as cf ls env m=Uh cf m (evs as ls env) (f ls env):=_root_.id rfl
@[simp] theorem abq (as:List j3)(f:FuncId)(a b:List j3):Uh cf m as (.func (.func f) a b)=cf (.func f) (a++(as++b)) m:=by show cf (.func f) (aX a (aX as b)) m=_;simp
end
@[simp] theorem aeX (b:Bool):oP true (.bool b)=b:=by cases b<;>rfl
@[simp] theorem adt (b:Bool):oP false (.bool b)=!b:=by cases b<;>rfl
section
variable (w:Bool)(x:OF)(ls:List j3)(env:T j3)(m:Mem)
@[simp] theorem anx (f:PF):gP x w f ls env=bi (oP w (x ls env)) (f ls env) (some .undef):=_root_.id rfl
@[simp] theorem ajK (f:RF):Rj x w f ls env m=bi (oP w (x ls env)) (f ls env m) (some .undef):=_root_.id rfl
@[simp] theorem ajL (f:LF)(i:Nat):gLk x w f ls env i=bi (oP w (x ls env)) (f ls env i) (some (.undef,none)):=_root_.id rfl
@[simp] theorem anz (f:EF)(cf:F4):gE x w f cf ls env m=bi (oP w (x ls env)) (f cf ls env m) (some [⟨.undef,m⟩]):=_root_.id rfl
end
@[simp] theorem T.aeY {α:Type}(x:α)(t:T α)(i:Nat):T.rep x 0 t i=t:=_root_.id rfl
attribute [simp] T.Dq T.Y0 T.dz
section
variable (cf:F4)(fu:Nat)(ir:Option Nat)(env:T j3)(m:Mem)(k:List Mk)
@[simp] theorem ahP (x:bK):nN x env m k=some [⟨x,env,m,k,none⟩]:=_root_.id rfl
@[simp] theorem adu:D9 cf fu ir env m k=some [⟨.normal,env,m,k,none⟩]:=_root_.id rfl
@[simp] theorem zo (r:RC):j6 r cf fu ir env m k=bnd (r cf [] env m) (gM k):=_root_.id rfl
@[simp] theorem adv:gM k ⟨env,m,none,[]⟩=some [⟨.normal,env,m,k,none⟩]:=_root_.id rfl
@[simp] theorem adw (n:Nat)(r:DC):fT n r cf fu ir env m k=bnd (r cf m.nx [] env (reserve n m) [reserve n m]) (gM k):=_root_.id rfl
def Ye (b:SC)(cf:F4)(fu:Nat)(ir:Option Nat)(o:Out):Option (List Out):=bK.rec (b cf fu ir o.env o.m o.marks) (λ_=>some [o]) (some [o]) o.x
@[simp] theorem uS (a b:SC):j5 a b cf fu ir env m k=bnd (a cf fu ir env m k) (Ye b cf fu ir):=_root_.id rfl
@[simp] theorem aae (b:SC)(p:Option j3):Ye b cf fu ir ⟨.normal,env,m,k,p⟩=b cf fu ir env m k:=_root_.id rfl
@[simp] theorem adx (b:SC)(i:Nat)(p:Option j3):Ye b cf fu ir ⟨.exit i,env,m,k,p⟩=some [⟨.exit i,env,m,k,p⟩]:=_root_.id rfl
@[simp] theorem aeZ (b:SC)(p:Option j3):Ye b cf fu ir ⟨.ret,env,m,k,p⟩=some [⟨.ret,env,m,k,p⟩]:=_root_.id rfl
@[simp] theorem ady (c:OF)(a b:SC):A9 c a b cf fu ir env m k=nJ (c [] env) λt=>bi t (a cf fu ir env m k) (b cf fu ir env m k):=_root_.id rfl
def Sr (id:Nat)(o:Out):Option (List Out):=bK.rec (some [o]) (λid'=>bi (Nat.beq id id') (nN .normal o.env o.m o.marks) (some [o])) (some [o]) o.x
@[simp] theorem abr (id:Nat)(a:SC):F7 id a cf fu ir env m k=bnd (a cf fu ir env m k) (Sr id):=_root_.id rfl
@[simp] theorem aaf (id:Nat)(p:Option j3):Sr id ⟨.normal,env,m,k,p⟩=some [⟨.normal,env,m,k,p⟩]:=_root_.id rfl
@[simp] theorem af0 (id:Nat)(p:Option j3):Sr id ⟨.ret,env,m,k,p⟩=some [⟨.ret,env,m,k,p⟩]:=_root_.id rfl
@[simp] theorem adz (id i:Nat)(p:Option j3):Sr id ⟨.exit i,env,m,k,p⟩=bi (Nat.beq id i) (some [⟨.normal,env,m,k,none⟩]) (some [⟨.exit i,env,m,k,p⟩]):=_root_.id rfl
@[simp] theorem adA (a:SC):U3 a cf fu ir env m k=I4 (λenv m k=>a cf fu ir env m k) fu env m k:=_root_.id rfl
def Qv (f:T j3->Mem->List Mk->Option (List Out))(o:Out):Option (List Out):=bK.rec (f o.env o.m o.marks) (λ_=>some [o]) (some [o]) o.x
theorem w9 (body:T j3->Mem->List Mk->Option (List Out))(n:Nat):I4 body (n+1) env m k=bnd (body env m k) (Qv (I4 body n)):=rfl
@[simp] theorem zq (f:T j3->Mem->List Mk->Option (List Out))(p:Option j3):Qv f ⟨.normal,env,m,k,p⟩=f env m k:=_root_.id rfl
@[simp] theorem abt (f:T j3->Mem->List Mk->Option (List Out))(i:Nat)(p:Option j3):Qv f ⟨.exit i,env,m,k,p⟩=some [⟨.exit i,env,m,k,p⟩]:=_root_.id rfl
@[simp] theorem adB (f:T j3->Mem->List Mk->Option (List Out))(p:Option j3):Qv f ⟨.ret,env,m,k,p⟩=some [⟨.ret,env,m,k,p⟩]:=_root_.id rfl
@[simp] theorem adC (id:Nat):mg id cf fu ir env m k=some [⟨.exit id,env,m,k,none⟩]:=_root_.id rfl
@[simp] theorem af2:F3 cf fu ir env m k=some [⟨.ret,env,m,k,none⟩]:=_root_.id rfl
end
section
variable (cf:F4)(b:Nat)(ls:List j3)(env:T j3)(m:Mem)(gs:List Mem)(d:j3->T j3->T j3)(k:DC)(c:Nat)
attribute [simp] JE JF
@[simp] theorem af3:qz cf b ls env m gs=some [⟨env,m,none,[]⟩]:=_root_.id rfl
@[simp] theorem ajM (f:PF):aC f d k cf b ls env m gs=ob (f ls env) λv=>k cf b (v::ls) (d v env) m gs:=_root_.id rfl
@[simp] theorem ajN (f:RF):nA f c d k cf b ls env m gs=ob (f ls env (hd m gs)) λv=>bi (stable f ls env v c (tl gs)) (k cf b (v::ls) (d v env) m gs) none:=_root_.id rfl
@[simp] theorem ajO (f:LF):dcL f c d k cf b ls env m gs=ob (f ls env (b+c)) λr=>bi (isVoid (m.get (b+c))) (bi (kY (b+c) gs) (k cf b (r.1::ls) (d r.1 env) (tL m (b+c) r.2) gs) none) none:=_root_.id rfl
@[simp] theorem ajP (f:EF)(gh:GF):FC f gh d k cf b ls env m gs=Oh (f cf ls env m) λr=>dx r.v (λx=>ob (gh b (.undef::ls) (d .undef env) m (m::gs) [env]) λes=>some (tT r.m x es)) (k cf b (r.v::ls) (d r.v env) r.m (r.m::gs)):=_root_.id rfl
section
variable (es:List (T j3))(g:GF)
@[simp] theorem af4:tN b ls env m gs es=some es:=_root_.id rfl
@[simp] theorem ajQ:KH b ls env m gs es=none:=_root_.id rfl
@[simp] theorem ajR:Lb d g b ls env m gs es=g b (.undef::ls) (d .undef env) m gs es:=_root_.id rfl
@[simp] theorem ajS:WO d g b ls env m gs es=g b (.undef::ls) (d .undef env) m (m::gs) es:=_root_.id rfl
@[simp] theorem ajT (f:PF)(w:Bool):tC f w d g b ls env m gs es=ob (f ls env) λv=>bi (Rk w v) (g b (v::ls) (d v env) m gs (TK w (d v) es)) none:=_root_.id rfl
@[simp] theorem ajU (f:RF)(c:Nat)(w:Bool):Lc f c w d g b ls env m gs es=ob (f ls env (hd m gs)) λv=>bi (stable f ls env v c (tl gs)) (bi (Rk w v) (g b (v::ls) (d v env) m gs (TK w (d v) es)) none) none:=_root_.id rfl
@[simp] theorem ajV (f:LF)(c:Nat):ghL f c g b ls env m gs es=ob (f ls env (b+c)) λr=>bi (isVoid (m.get (b+c))) (bi (kY (b+c) gs) (g b (r.1::ls) env (tL m (b+c) r.2) gs es) none) none:=_root_.id rfl
@[simp] theorem abu (v:j3):Rk false v=true:=_root_.id rfl
@[simp] theorem af5 (w:Bool)(k:IntKind)(n:Int):Rk w (.int k n)=true:=by cases w<;>rfl
@[simp] theorem adD (f:T j3->T j3):TK false f es=es:=_root_.id rfl
@[simp] theorem adF (f:T j3->T j3)(x:T j3):TK true f [x]=[x,f x]:=_root_.id rfl
@[simp] theorem adG (x:j3):tT m x []=[]:=_root_.id rfl
@[simp] theorem abv (x:j3)(y:T j3):tT m x (y::es)=⟨y,m,some x,[]⟩::tT m x es:=_root_.id rfl
end
@[simp] theorem ahQ (g:Mem):hd m (g::gs)=g:=_root_.id rfl
@[simp] theorem ahR (g:Mem):tl (g::gs)=gs:=_root_.id rfl
@[simp] theorem adH (i:Nat)(x:O9):tL m i (some x)=m.set i x:=_root_.id rfl
@[simp] theorem aag:isVoid (some .void)=true:=_root_.id rfl
@[simp] theorem aah (i:Nat):kY i []=true:=_root_.id rfl
@[simp] theorem Yf (i:Nat)(g:Mem):kY i (g::gs)=bi (isVoid (g.get i)) (kY i gs) false:=_root_.id rfl
@[simp] theorem aai (f:RF)(v:j3):stable f ls env v 0 gs=true:=_root_.id rfl
@[simp] theorem aaj (f:RF)(v:j3)(n:Nat)(g:Mem):stable f ls env v (n+1) (g::gs)=bi (Option.rec false (λu=>aW 100 u v) (f ls env g)) (stable f ls env v n gs) false:=_root_.id rfl
end
@[simp] theorem Vo (env:T j3):cK [] [] env=some env:=_root_.id rfl
@[simp] theorem TL (j:Option Nat)(js:List (Option Nat))(v:j3)(vs:List j3)(env:T j3):cK (j::js) (v::vs) env=cK js vs (bW j v env):=_root_.id rfl
@[simp] theorem adI (dcf:jG)(rs:List oO)(env:T j3)(m:Mem):leave dcf rs ⟨.ret,env,m,[],none⟩=ob (results rs env m) λl=>some [⟨result l,m⟩]:=_root_.id rfl
@[simp] theorem Yg (dcf:jG)(rs:List oO)(env:T j3)(m:Mem):leave dcf rs ⟨.normal,env,m,[],none⟩=ob (results rs env m) λl=>some [⟨result l,m⟩]:=_root_.id rfl
@[simp] theorem aak (env:T j3)(m:Mem):results [] env m=some []:=_root_.id rfl
@[simp] theorem results_tmp (j:Nat)(rs:List oO)(env:T j3)(m:Mem):results (.tmp j::rs) env m=ob (env.get j) λv=>ob (results rs env m) λl=>some (v::l):=_root_.id rfl
@[simp] theorem abw:result []=.tuple []:=_root_.id rfl
@[simp] theorem abx (v:j3):result [v]=v:=_root_.id rfl
@[simp] theorem aby (v x:j3)(l:List j3):result (v::x::l)=.tuple (v::x::l):=_root_.id rfl
structure Ext (m m':Mem):Prop where
 ok:T.Ok m'.t m'.nx
 nx:m.nx<=m'.nx
 lim:m'.lim=m.lim
 old:∀i,i<m.nx->m'.get i=m.get i
theorem Ext.refl {m:Mem}(h:T.Ok m.t m.nx):Ext m m:=⟨h,J2 _,rfl,λ_ _=>rfl⟩
theorem Ext.trans {a b c:Mem}(h:Ext a b)(k:Ext b c):Ext a c:=
 ⟨k.ok,Xl h.nx k.nx,k.lim.trans h.lim,λi hi=>(k.old i (Xb hi h.nx)).trans (h.old i hi)⟩
theorem Ext.new {a m:Mem}(h:Ext a m)(b:O9):Ext a (m.new b):=
 ⟨h.ok.push b,aic h.nx,h.lim,λi hi=>by rw [Mem.N7 h.ok,if_neg (by have:=h.nx;omega)];exact h.old i hi⟩
theorem Ext.set {a m:Mem}(h:Ext a m){i:Nat}(hi:i<m.nx)(hn:a.nx<=i)(b:O9):Ext a (m.set i b):=
 ⟨h.ok.put _ _ hi,h.nx,h.lim,λj hj=>by rw [Mem.Z0 h.ok hi,if_neg (by omega)];exact h.old j hj⟩
theorem Ext.get {a m:Mem}(h:Ext a m){i:Nat}{b:O9}(ha:T.Ok a.t a.nx)(hg:a.get i=some b):m.get i=some b:=
 (h.old i (Mem.I8 ha hg)).trans hg
def wu (m:Mem)(v:j3)(xs:List Int):Prop:=
 (v=.nilSlice∧xs=[])∨∃p:Nat×Nat,((∃c,v=.slice p.1 p.2 xs.length c)∨∃es,v=.sliceU p.1 p.2 xs.length es)∧p.1<m.nx∧(xs=[]∨∃n rows,m.get p.1=some (.cells 1 n rows)∧p.2+xs.length<=n∧∀i (h:i<xs.length),rows.get (p.2+i)=some [.int .i64 xs[i]])
theorem wu.ext {m m':Mem}(h:Ext m m'){v:j3}{xs:List Int}(hv:wu m v xs):wu m' v xs:=by rcases hv with hv | ⟨id,h1,h2,h3⟩;exact .inl hv;refine .inr ⟨id,h1,Xb h2 h.nx,?_⟩;rcases h3 with h3 | ⟨n,rows,h4,h5,h6⟩;exact .inl h3;exact .inr ⟨n,rows,(h.old id.1 h2).trans h4,h5,h6⟩
theorem Qw {n i:Nat}{rows:T (List j3)}{v:j3}(h:i<n)(hr:rows.get i=some [v]):ld1 (some (.cells 1 n rows)) i=some v:=by have:=vT (rs:=1) (n:=n) (rows:=rows) (i:=i) (j:=0) (by omega) h hr;rw [ai9] at this;exact this
theorem Y9 {i:Nat}(h:i<4611686018427387904):iU ((i:Int)+1)=((i+1:Nat):Int):=by rw [L8 (by omega) (by omega)];rfl
theorem wu.at {m:Mem}{v:j3}{xs:List Int}(h:wu m v xs){i:Nat}(hi:i<xs.length):
  ∃q:Nat×Nat,jV v none (λid off len _=>idx len (.int .i64 i) λk=>some (j3.ptr id (off+k))) (λid off len _=>idx len (.int .i64 i) λk=>some (j3.ptr id (off+k)))=some (.ptr q.1 q.2)∧q.1<m.nx∧ld1 (m.get q.1) q.2=some (.int .i64 xs[i]):=by
 rcases h with⟨_,rfl⟩ | ⟨id,h1,h2,h3⟩;simp at hi;rcases h3 with rfl | ⟨n,rows,h4,h5,h6⟩;simp at hi;refine⟨(id.1,id.2+i),?_,h2,by rw [h4];exact Qw (by omega) (h6 i hi)⟩;rcases h1 with⟨c,rfl⟩ | ⟨c,rfl⟩;simp only [qM];rw [pV _ _ _ hi];simp only [oh];rw [pV _ _ _ hi]
theorem wu.cells {m:Mem}{v:j3}{xs:List Int}(h:wu m v xs):v.cells=[v]:=by rcases h with⟨rfl,rfl⟩ | ⟨id,⟨c,rfl⟩ | ⟨c,rfl⟩,_⟩<;>rfl
theorem wu.mZ {m:Mem}{v:j3}{xs:List Int}(h:wu m v xs){β:Type}(p:j3->β)(q:β):dx v p q=q:=by rcases h with⟨rfl,rfl⟩ | ⟨id,⟨c,rfl⟩ | ⟨c,rfl⟩,_⟩<;>rfl
theorem wu.K5 {m:Mem}{v:j3}{xs:List Int}(h:wu m v xs):Go.AM.K5 v=true:=by rcases h with⟨rfl,rfl⟩ | ⟨id,⟨c,rfl⟩ | ⟨c,rfl⟩,_⟩<;>rfl
theorem wu.len {m:Mem}{v:j3}{xs:List Int}(h:wu m v xs):jV v (some (j3.int .i64 0)) (λ_ _ n _=>some (.int .i64 n)) (λ_ _ n _=>some (.int .i64 n))=some (.int .i64 xs.length):=by rcases h with⟨rfl,rfl⟩ | ⟨id,⟨c,rfl⟩ | ⟨c,rfl⟩,_⟩<;>rfl
theorem wu.lenOf {m:Mem}{v:j3}{xs:List Int}(h:wu m v xs):Go.AM.lenOf v=some xs.length:=by rcases h with⟨rfl,rfl⟩ | ⟨id,⟨c,rfl⟩ | ⟨c,rfl⟩,_⟩<;>rfl
def ints (xs:List Int):List j3:=xs.map (j3.int .i64)
namespace T
variable {α:Type}
theorem Qx {t:T α}{n:Nat}(h:Ok t n):∀i (x y:α),i<=n->(t.put i x).put i y=t.put i y:=by
 induction h with
 | e=>intro i x y hi;obtain rfl:i=0:=by omega
      rfl
 | @nd l r z n hl hr ihl ihr=>
  intro i x y hi;cases i with
  | zero=>rfl
  | succ i=>rw [Y0,Y0];split;rename_i h0;rw [Y0,if_pos h0,ihl _ _ _ (by omega)];rename_i h0;rw [Y0,if_neg h0,ihr _ _ _ (by omega)]
theorem put_comm {t:T α}{n:Nat}(h:Ok t n):∀i (x y:α),i<n->(t.put n x).put i y=(t.put i y).put n x:=by
 induction h with
 | e=>intro i x y hi;omega
 | @nd l r z n hl hr ihl ihr=>
  intro i x y hi;cases i with
  | zero=>rw [Y0,Li,Y0];split<;>rfl
  | succ i=>
   rw [Y0 (i:=n),Y0 (i:=i)];by_cases hn:n%2=0;rw [if_pos hn,Y0];by_cases h0:i%2=0;rw [if_pos h0,if_pos h0,Y0,if_pos hn];have e:(n+1) / 2=n / 2:=by omega
   rw [e] at hl ihl;have:=ihl (i / 2) x y (by omega);rw [this];rw [if_neg h0,if_neg h0,Y0,if_pos hn];rw [if_neg hn,Y0];by_cases h0:i%2=0;rw [if_pos h0,if_pos h0,Y0,if_neg hn];rw [if_neg h0,if_neg h0,Y0,if_neg hn];have:=ihr (i / 2) x y (by omega);rw [this]
end T
theorem zu {α:Type}{p:List α->Prop}(h0:p [])(hs:∀l b,p l->p (l ++ [b])):∀l,p l:=by
 intro l;have:p l.reverse.reverse:=by
  generalize l.reverse=r;induction r with
  | nil=>exact h0
  | cons x r ih=>rw [List.reverse_cons];exact hs _ _ ih
 rwa [List.reverse_reverse] at this
def ext (m:Mem)(l:List O9):Mem:=l.foldl Mem.new m
theorem p9 (m:Mem)(b:O9):m.new b=ext m [b]:=rfl
theorem u7 (m:Mem)(l l':List O9):ext (ext m l) l'=ext m (l++l'):=by simp [ext]
theorem ext_nil (m:Mem):ext m []=m:=rfl
theorem om (m:Mem)(l:List O9)(b:O9):ext m (l ++ [b])=(ext m l).new b:=by simp [ext]
@[simp] theorem ML (m:Mem)(l:List O9):(ext m l).nx=m.nx+l.length:=by
 induction l using zu with
 | h0=>rfl
 | hs l b ih=>rw [om,Mem.Lm,ih];simp;omega
@[simp] theorem Qy (m:Mem)(l:List O9):(ext m l).lim=m.lim:=by
 induction l using zu with
 | h0=>rfl
 | hs l b ih=>rw [om,Mem.XB,ih]
theorem oo {m:Mem}(hm:m.Ok)(l:List O9):(ext m l).Ok:=by
 induction l using zu with
 | h0=>exact hm
 | hs l b ih=>rw [om];exact ih.new b
theorem ext_get {m:Mem}(hm:m.Ok)(l:List O9)(i:Nat):(ext m l).get i=if i<m.nx then m.get i else l[i-m.nx]?:=by
 induction l using zu with
 | h0=>
  rw [ext_nil];split;rfl;cases h:m.get i with
  | none=>simp
  | some b=>have:=Mem.I8 hm h;omega
 | hs l b ih=>rw [om,Mem.N7 (oo hm l),ih,ML];by_cases h1:i<m.nx;rw [if_neg (by omega),if_pos h1,if_pos h1];rw [if_neg h1,if_neg h1];by_cases h2:i=m.nx+l.length;rw [if_pos h2,abV (by omega),show i-m.nx-l.length=0 from by omega];rfl;rw [if_neg h2];by_cases h3:i-m.nx<l.length;rw [aau h3];rw [afu (by omega),afu (by simp;omega)]
theorem G7 {m:Mem}(hm:m.Ok)(l:List O9)(c:Nat):(ext m l).get (m.nx+c)=l[c]?:=by rw [ext_get hm,if_neg (by omega),show m.nx+c-m.nx=c from by omega]
theorem z8 {m:Mem}(hm:m.Ok)(l:List O9):(ext m l).get m.nx=l[0]?:=G7 hm l 0
theorem U8 {m:Mem}(hm:m.Ok)(l:List O9){i:Nat}(h:i<m.nx):(ext m l).get i=m.get i:=by rw [ext_get hm,if_pos h]
theorem y9 {m:Mem}(hm:m.Ok)(l:List O9):Ext m (ext m l):=⟨oo hm l,by simp,by simp,λi hi=>U8 hm l hi⟩
theorem Mem.Ct {m:Mem}(hm:m.Ok)(a b:O9):(m.new a).set m.nx b=m.new b:=by show (⟨(m.t.put m.nx a).put m.nx b,_,_⟩:Mem)=_;rw [T.Qx hm _ _ _ (J2 _)];rfl
theorem Mem.MN {m:Mem}(hm:m.Ok)(a b:O9){i:Nat}(h:i<m.nx):(m.new a).set i b=(m.set i b).new a:=by show (⟨(m.t.put m.nx a).put i b,_,_⟩:Mem)=⟨(m.t.put i b).put m.nx a,_,_⟩;rw [T.put_comm hm _ _ _ h];rfl
theorem K3 {m:Mem}(hm:m.Ok)(l:List O9)(c:Nat)(b:O9)(h:c<l.length):(ext m l).set (m.nx+c) b=ext m (l.set c b):=by
 induction l using zu with
 | h0=>simp at h
 | hs l a ih=>
  rw [om];by_cases h1:c<l.length;rw [Mem.MN (oo hm l) _ _ (by rw [ML];omega),ih h1,List.set_append_left _ _ h1,om];have:c=l.length:=by simp at h;omega
  subst this;have e:m.nx+l.length=(ext m l).nx:=by simp
  rw [e,Mem.Ct (oo hm l),List.set_append_right _ _ (J2 _)];simp [om]
theorem H7 {m:Mem}(hm:m.Ok)(l:List O9)(b:O9)(h:0<l.length):(ext m l).set m.nx b=ext m (l.set 0 b):=K3 hm l 0 b h
end
end Go.AM
namespace Go.AM
open Go
theorem eG {α:Type}(a b:Nat)(x y:α):bi (Nat.beq a b) x y=if a=b then x else y:=uz a b x y
theorem Hz {α:Type}(a b:Nat)(x y:α):bi (Nat.ble a b) x y=if a<=b then x else y:=by
 cases h:Nat.ble a b with
 | true=>rw [if_pos (Y2 h)];rfl
 | false=>rw [if_neg (λhh=>by rw [Z5 hh] at h;cases h)];rfl
theorem Sv {α:Type}(a b:Nat)(x y:α):bi (Nat.blt a b) x y=if a<b then x else y:=Hz (a+1) b x y
theorem JO (ls:List j3)(env:T j3)(p:Nat×Nat×OF)(l:List (Nat×Nat×OF))(cs:List j3):lay (p::l) ls env cs =
  if (p.2.2 ls env).cells.length=p.2.1 then if p.1+p.2.1<=cs.length then lay l ls env (cs.take p.1++((p.2.2 ls env).cells++cs.drop (p.1+(p.2.2 ls env).cells.length))) else none else none:=by
 rw [Vl,eG,I9,I9];split;rename_i h;show bi (Nat.ble (p.1+p.2.1) cs.length) _ _=_;rw [Hz];split;rename_i h2;rw [lQ _ _ _ (by omega)];rfl;rfl
theorem Sw (sz:Nat)(a x:OF)(cf:F4)(ls:List j3)(env:T j3)(m:Mem):I6 sz a x cf ls env m=gK (a ls env) λid off=>
  if (x ls env).cells.length=sz then storeAt m id off (x ls env).cells λm'=>some [⟨.undef,m'⟩] else none:=by
 rw [Sq];simp only [eG]
theorem O4 {β:Type}{m:Mem}(hm:m.Ok)(hl:m.lim<=m.nx)(l:List O9)(c off:Nat)(vs:List j3)(k:Mem->Option β):
  storeAt (ext m l) (m.nx+c) off vs k=bi (O0 vs) (ob (FD l[c]? off vs) λb=>k (ext m (l.set c b))) none:=by
 cases h1:O0 vs with
 | false=>unfold storeAt;rw [h1];cases Nat.blt (m.nx+c) (ext m l).lim<;>rfl
 | true=>rw [kU (by rw [Qy];omega) h1,G7 hm,P7];by_cases hc:c<l.length;congr 1;funext b;rw [K3 hm _ _ _ hc];rw [afu (by omega)];rfl
theorem H6 {β:Type}{m:Mem}(hm:m.Ok)(hl:m.lim<=m.nx)(l:List O9)(off:Nat)(vs:List j3)(k:Mem->Option β):
  storeAt (ext m l) m.nx off vs k=bi (O0 vs) (ob (FD l[0]? off vs) λb=>k (ext m (l.set 0 b))) none:=O4 hm hl l 0 off vs k
@[simp] theorem Yh (j:Nat)(k:Nat)(rs:List oO)(env:T j3)(m:Mem):results (.cell j (some k)::rs) env m=ob (ob (env.get j) λp=>gK p λid off=>Hy (m.get id) off k) λv=>ob (results rs env m) λl=>some (v::l):=id rfl
@[simp] theorem WT (j:Nat)(rs:List oO)(env:T j3)(m:Mem):results (.cell j none::rs) env m=ob (ob (env.get j) λp=>gK p λid off=>ld1 (m.get id) off) λv=>ob (results rs env m) λl=>some (v::l):=id rfl
end Go.AM
namespace Go.AM
open Go
section
variable {α β:Type}
@[congr] theorem af6 {b b':Bool}{x x' y y':α}(hb:b=b')(h1:b'=true->x=x')(h2:b'=false->y=y'):bi b x y=bi b' x' y':=by
 subst hb;cases b with
 | true=>exact h1 rfl
 | false=>exact h2 rfl
@[simp] theorem ahS (b:Bool)(x:α):bi b x x=x:=by cases b<;>rfl
@[simp] theorem ajW (b:Bool)(x y:α):bi (!b) x y=bi b y x:=by cases b<;>rfl
theorem abz (b:Bool)(x y:α)(k:α->Option β):ob (bi b (some x) (some y)) k=k (bi b x y):=by cases b<;>rfl
theorem Yi (b:Bool)(x y:α)(k:α->Option (List β)):bnd (bi b (some [x]) (some [y])) k=k (bi b x y):=by cases b<;>rfl
theorem Vp (b:Bool)(x y:α)(k:α->Option β):Oh (bi b (some [x]) (some [y])) k=k (bi b x y):=by cases b<;>rfl
end
@[simp] theorem aal (b c:Bool):bi b (j3.bool c) (j3.bool false)=.bool (b&&c):=by cases b<;>rfl
@[simp] theorem abA (b c:Bool):bi b (j3.bool true) (j3.bool c)=.bool (b||c):=by cases b<;>rfl
@[simp] theorem ahT {β:Type}(b:Bool)(v w:j3)(p:j3->β)(q:β):dx (bi b v w) p q=bi b (dx v p q) (dx w p q):=by cases b<;>rfl
end Go.AM
namespace Go.AM
open Go
section
variable {α:Type}(a b c:Bool)(x y z:α)
@[simp] theorem ahU:bi b (bi b x y) z=bi b x z:=by cases b<;>rfl
@[simp] theorem af7:bi b x (bi b y z)=bi b x z:=by cases b<;>rfl
@[simp] theorem ahV:bi (b&&c) (bi b x y) z=bi (b&&c) x z:=by cases b<;>cases c<;>rfl
@[simp] theorem ahW:bi (b&&c) (bi c x y) z=bi (b&&c) x z:=by cases b<;>cases c<;>rfl
@[simp] theorem ajX:bi (b||c) x (bi b y z)=bi (b||c) x z:=by cases b<;>cases c<;>rfl
@[simp] theorem ajY:bi (b||c) x (bi c y z)=bi (b||c) x z:=by cases b<;>cases c<;>rfl
end
end Go.AM
namespace Go.AM
open Go
@[simp] theorem anA (b:Bool)(f f':T j3)(m m':Mem)(p p':Option j3)(k k':List Mk):bi b (⟨f,m,p,k⟩:EM) ⟨f',m',p',k'⟩=⟨bi b f f',bi b m m',bi b p p',bi b k k'⟩:=by cases b<;>rfl
@[simp] theorem anB (b:Bool)(l l' r r':T j3)(x x':j3):bi b (T.nd l x r) (T.nd l' x' r')=.nd (bi b l l') (bi b x x') (bi b r r'):=by cases b<;>rfl
@[simp] theorem ajZ (b:Bool)(v w:j3)(m m':Mem):bi b (⟨v,m⟩:VM) ⟨w,m'⟩=⟨bi b v w,bi b m m'⟩:=by cases b<;>rfl
end Go.AM
namespace Go.AM
open Go
@[simp] theorem adJ (w:Bool):oP w .undef=false:=id rfl
end Go.AM
namespace Go.AM
open Go
@[simp] theorem Sy (ks:List PK)(a b:List j3):qd ks (.agg a) (.agg b)=bH ks a b:=id rfl
@[simp] theorem adK:bH [] [] []=some true:=id rfl
@[simp] theorem Sz (k:PK)(ks:List PK)(x y:j3)(a b:List j3):bH (k::ks) (x::a) (y::b)=ob (FI k x y) λr=>bi r (bH ks a b) (some false):=id rfl
@[simp] theorem ak0:FI .i=aF:=id rfl
@[simp] theorem af8 (k:IntKind)(a b:Int):aF (.int k a) (.int k b)=some (decide (a=b)):=by show bi (Xj k k) (some (aV a b)) none=_;rw [Ew,fF,show (a==b)=decide (a=b) from rfl];rfl
@[simp] theorem aam (b c:Bool):bi b (some c) (some false)=some (b&&c):=by cases b<;>rfl
theorem kV (n:Nat)(k:IntKind)(i:Int):aW (n+1) (.int k i) (.int k i)=true:=by show bi (Xj k k) (aV i i) false=true;rw [Ew,fF];simp
theorem vU (f:j3->j3->Bool)(x y:j3)(a b:List j3):wm f (x::a) (y::b)=bi (f x y) (wm f a b) false:=rfl
theorem Vq (f:j3->j3->Bool):wm f [] []=true:=rfl
theorem SA (n:Nat)(a b:List j3):aW (n+1) (.agg a) (.agg b)=wm (aW n) a b:=rfl
end Go.AM
namespace Go.AM
open Go
section
variable {α β:Type}
@[congr] theorem anC {o o':Option α}{k:α->Option β}(h:o=o'):ob o k=ob o' k:=by rw [h]
@[congr] theorem ak1 {o o':Option (List α)}{k:α->Option (List β)}(h:o=o'):bnd o k=bnd o' k:=by rw [h]
@[congr] theorem ahX {o o':Option (List α)}{k:α->Option β}(h:o=o'):Oh o k=Oh o' k:=by rw [h]
@[congr] theorem ahY {v v':j3}{p:j3->β}{q:β}(h:v=v'):dx v p q=dx v' p q:=by rw [h]
@[congr] theorem ahZ {v v':j3}{k:Nat->Nat->Option β}(h:v=v'):gK v k=gK v' k:=by rw [h]
@[congr] theorem ai0 {v v':j3}{k:IntKind->Int->Option β}(h:v=v'):qW v k=qW v' k:=by rw [h]
@[congr] theorem af9 {v v':j3}{k:Bool->Option β}(h:v=v'):nJ v k=nJ v' k:=by rw [h]
@[congr] theorem ai1 {v v':j3}{k:List j3->Option β}(h:v=v'):tF v k=tF v' k:=by rw [h]
@[congr] theorem ai2 {v v':j3}{k:List j3->Option β}(h:v=v'):KN v k=KN v' k:=by rw [h]
@[congr] theorem ai3 {v v':j3}{k:List UInt8->Option β}(h:v=v'):lJ v k=lJ v' k:=by rw [h]
@[congr] theorem ai4 {v v':j3}{k:Nat->Option β}(h:v=v'):gZ v k=gZ v' k:=by rw [h]
end
end Go.AM
namespace Go.AM
open Go
section
variable {α β:Type}
@[simp high] theorem adL (a:α)(k:α->Option β):ob (some a) k=k a:=id rfl
@[simp high] theorem adM (k:α->Option β):ob none k=none:=id rfl
@[simp high] theorem adN (x y:α):bi true x y=x:=id rfl
@[simp high] theorem abB (x y:α):bi false x y=y:=id rfl
@[simp high] theorem ai5 (i:Nat):(T.e:T α).get i=none:=id rfl
@[simp high] theorem abC (l:T α)(x:α)(r:T α):(T.nd l x r).get 0=some x:=id rfl
@[simp high] theorem ai6 (i:Nat)(x:α):(T.e:T α).put i x=.nd .e x .e:=id rfl
@[simp high] theorem abD (l:T α)(y:α)(r:T α)(x:α):(T.nd l y r).put 0 x=.nd l x r:=id rfl
@[simp high] theorem abE (x:α)(n:Nat)(t:T α)(i:Nat):T.rep x (n+1) t i=T.rep x n (t.put i x) (i+1):=id rfl
@[simp high] theorem Vr (m:Mem):reserve 0 m=m:=id rfl
@[simp high] theorem Vs (n:Nat)(m:Mem):reserve (n+1) m=reserve n (m.new .void):=id rfl
@[simp high] theorem abF (m:Mem)(b:O9):(m.new b).nx=m.nx+1:=id rfl
@[simp high] theorem adO (m:Mem)(b:O9):(m.new b).lim=m.lim:=id rfl
@[simp high] theorem abG (m:Mem)(i:Nat)(b:O9):(m.set i b).nx=m.nx:=id rfl
@[simp high] theorem adP (m:Mem)(i:Nat)(b:O9):(m.set i b).lim=m.lim:=id rfl
end
end Go.AM
namespace Go.AM
open Go
@[simp] theorem aan:aW 100 .undef .undef=true:=id rfl
end Go.AM
namespace Go.AM
open Go
end Go.AM
namespace Go.AM
open Go
theorem MO {β:Type}{es:Nat}{cells:List j3}(h:cells.length=es)(k:O9->Option β):vJ es 1 cells k=k (j4 cells):=by show ob (ob (takeN es cells) λr=>ob (rowsOf es 0 (jo es cells)) λrest=>some (r::rest)) (λrows=>k (.cells es 1 (T.ofList rows)))=_;rw [gQ _ _ (by omega),P5,gN,abT (by omega),aar (by omega)];show k (.cells es 1 (.nd .e cells .e))=k (.cells (len' cells) 1 (.nd .e cells .e));rw [I9,h]
theorem gX (es:Nat)(zero:List j3)(ps:List (Nat×Nat×OF))(ls:List j3)(env:T j3)(nid:Nat)(hz:zero.length=es):F8 es 1 zero ps ls env nid=ob (lay ps ls env zero) λcells=>if cells.length=es then some (.slice nid 0 1 1,some (j4 cells)) else none:=by
 show ob (lay ps ls env (aX zero [])) (λcells=>vJ es 1 cells λb=>some (j3.slice nid 0 1 1,some b))=_;rw [V5,aiw];congr 1;funext cells;split;rename_i h;rw [MO h];rename_i h;show ob (ob (takeN es cells) λr=>ob (rowsOf es 0 (jo es cells)) λrest=>some (r::rest)) _=none;cases ht:takeN es cells with
 | none=>rfl
 | some r=>
  obtain⟨h1,h2⟩:=kJ _ _ _ ht;rw [P5,gN];cases hd:cells.drop es with
  | nil=>have:=afw.1 hd;omega
  | cons x xs=>rfl
@[simp] theorem afa {β:Type}(len:Nat)(k:Nat->Option β):idx len (.int .i64 0) k=if 0<len then k 0 else none:=by show bi (Nat.blt 0 len) (k 0) none=_;rw [Sv]
noncomputable def MP (b:Option O9)(k:j3)(es:List (j3×j3)):Option O9:=match b with
 | some (.mapU _)=>lJ k λ_=>some (.mapU es)
 | _=>some (.map es)
@[simp] theorem afb (es:List (j3×j3))(k:j3)(es2:List (j3×j3)):MP (some (.map es)) k es2=some (.map es2):=rfl
@[simp] theorem adQ (es:List (j3×j3))(s:List UInt8)(es2:List (j3×j3)):MP (some (.mapU es)) (.str s) es2=some (.mapU es2):=rfl
theorem SE (m:Mem)(id:Nat)(k:j3)(es:List (j3×j3)):nL m id k es=ob (MP (m.get id) k es) λb=>some [⟨.undef,m.set id b⟩]:=by
 unfold nL MP;match m.get id with
 | some (.mapU _)=>cases k<;>rfl
 | some (.map _) | some .void | some .dead | some (.cells ..) | some (.iter ..) | some (.tail _) | some (.loop ..) | some .deferred | some (.siter ..) | some (.buf ..) | none=>rfl
noncomputable def msB (b:Option O9)(f:Ja)(n:Nat)(k x:j3):Option O9:=
 KQ b λes=>ob (W9 f n k es) λr=>Option.rec (MP b k (es ++ [(k,x)])) (λp=>ob es[p.1]? λe=>bi (Nat.beq e.1.cells.length n) (MP b k (dL es k x p.1)) none) r
theorem Ey (f:Ja)(n:Nat)(mp k x:OF)(cf:F4)(ls:List j3)(env:T j3)(m:Mem):P9 f n mp k x cf ls env m=wh (mp ls env) none λid=>bi (Nat.blt id m.lim) none (ob (msB (m.get id) f n (k ls env) (x ls env)) λb=>some [⟨.undef,m.set id b⟩]):=by
 show wh (mp ls env) none (λid=>bi (Nat.blt id m.lim) none _)=_;congr 1;funext id;congr 1;unfold msB;have hp:=SE m id;have key:∀es,(ob (W9 f n (k ls env) es) λr=>(Option.rec (nL m id (k ls env) (aX es [(k ls env,x ls env)])) (λp=>ob (mK p.1 es) λe=>bi (Nat.beq (len' e.1.cells) n) (nL m id (k ls env) (dL es (k ls env) (x ls env) p.1)) none) r:bX)) =
   ob (ob (W9 f n (k ls env) es) λr=>Option.rec (MP (m.get id) (k ls env) (es ++ [(k ls env,x ls env)])) (λp=>ob es[p.1]? λe=>bi (Nat.beq e.1.cells.length n) (MP (m.get id) (k ls env) (dL es (k ls env) (x ls env) p.1)) none) r) λb=>some [⟨.undef,m.set id b⟩]:=λes=>by
  cases W9 f n (k ls env) es with
  | none=>rfl
  | some r=>
   cases r with
   | none=>simp only [P5];rw [hp,V5]
   | some p=>
    simp only [P5];rw [iY];cases es[p.1]? with
    | none=>rfl
    | some e=>
     simp only [P5,I9];cases Nat.beq e.1.cells.length n with
     | true=>simp only [P7];rw [hp]
     | false=>rfl
 match hb:m.get id with
 | some (.map es)=>rw [hb] at key;exact key es
 | some (.mapU es)=>rw [hb] at key;exact key es
 | some .void | some .dead | some (.cells ..) | some (.iter ..) | some (.tail _) | some (.loop ..) | some .deferred | some (.siter ..) | some (.buf ..) | none=>rfl
@[congr] theorem ai8 {β:Type}{v v':j3}{z:Option β}{k:Nat->Option β}(h:v=v'):wh v z k=wh v' z k:=by rw [h]
theorem JQ (f:Ja)(n:Nat)(k:j3):W9 f n k []=bi (Nat.beq (len' k.cells) n) (ob (f k k) λ_=>some none) none:=rfl
theorem Gh (f:Ja)(n:Nat)(k:j3)(e:j3×j3)(es:List (j3×j3)):W9 f n k (e::es)=bi (Nat.beq (len' k.cells) n) (findKey f k (e::es) 0) none:=rfl
@[simp] theorem abH (f:OF)(params:List (Option Nat))(assign body:U6)(cf:F4)(fu:Nat)(env:T j3)(m:Mem)(k:List Mk):Qb f params assign body cf fu none env m k=Oi cf (f [] env) params assign body env (m.new .deferred) (.c m.nx::k):=id rfl
@[simp] theorem adR (cf:F4)(f:FuncId)(a b:List j3)(params:List (Option Nat))(assign body:U6)(env:T j3)(m:Mem)(k:List Mk):Oi cf (.func (.func f) a b) params assign body env m k =
  bnd (cf (.func f) (a++(.func (.yield m.nx) [] []::b)) (m.new (.loop .ready none env params assign body))) λr=>dx r.v (λ_=>none) <|
   oZ (r.m.get m.nx) λst pend _ _ _ _=>match st with
    | .busy=>none
    | _=>match pend with
     | none=>nN .normal env (r.m.set m.nx .dead) k
     | some x=>nN x env (r.m.set m.nx .dead) k:=by
 show bnd (cf (.func f) (aX a (aX [.func (.yield m.nx) [] []] b)) _) _=_;rw [V5,V5];rfl
@[simp] theorem afc {β:Type}(st:LoopState)(pend:Option bK)(env:T j3)(ps:List (Option Nat))(as bd:U6)(f:LoopState->Option bK->T j3->List (Option Nat)->U6->U6->Option β):oZ (some (.loop st pend env ps as bd)) f=f st pend env ps as bd:=id rfl
end Go.AM
namespace Go.AM
open Go
theorem rY {β:Type}{m:Mem}{id:Nat}(hl:m.lim<=id)(off:Nat)(vs:List j3)(k:Mem->Option β):storeAt m id off vs k=bi (O0 vs) (ob (FD (m.get id) off vs) λb=>k (m.set id b)) none:=by
 cases h1:O0 vs with
 | true=>rw [kU hl h1];rfl
 | false=>unfold storeAt;rw [h1];cases Nat.blt id m.lim<;>rfl
end Go.AM
