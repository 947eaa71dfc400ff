/- A part of an evaluator for the model, proved sound: what it answers holds of the model; it speaks of every program, no condition. -/
import Derived.Test.YteecnooaopfkeaaGreatDoorPA3
import Derived.RecoverIn
import Derived.Deep.Slices
set_option linter.all false
namespace Go.AM
open Go
theorem qV {α:Type}{f:α->Option Nat}:∀{l:List α},(l.filterMap f).Nodup->∀{i j:Nat} {x y:α} {t:Nat},l[i]?=some x->l[j]?=some y->f x=some t->f y=some t->i=j
 | [],_,i,j,x,y,t,hi,_,_,_=>by simp at hi
 | z::l,h,i,j,x,y,t,hi,hj,hx,hy=>by
  have hmem:∀{k:Nat} {u:α},l[k]?=some u->f u=some t->t∈l.filterMap f:=λhk hu=>List.mem_filterMap.2 ⟨_,Xb hk,hu⟩;cases hz:f z with
  | none=>
   rw [List.filterMap_cons_none hz] at h;cases i with
   | zero=>simp at hi;subst hi;rw [hz] at hx;cases hx
   | succ i=>
    cases j with
    | zero=>simp at hj;subst hj;rw [hz] at hy;cases hy
    | succ j=>exact congrArg Nat.succ (qV h (i:=i) (j:=j) (by simpa using hi) (by simpa using hj) hx hy)
  | some u=>
   rw [List.filterMap_cons_some hz] at h;obtain⟨h1,h2⟩:=ad1.1 h;cases i with
   | zero=>
    simp at hi;subst hi;rw [hz] at hx;cases hx;cases j with
    | zero=>rfl
    | succ j=>exact absurd (hmem (by simpa using hj) hy) h1
   | succ i=>
    cases j with
    | zero=>simp at hj;subst hj;rw [hz] at hy;cases hy;exact absurd (hmem (by simpa using hi) hx) h1
    | succ j=>exact congrArg Nat.succ (qV h2 (i:=i) (j:=j) (by simpa using hi) (by simpa using hj) hx hy)
section
variable {P:Program}{G:Mem}{slots:List Nat}{nt:Nat}{cf:F8}{ops:Array Oper}
theorem LY {α:Type}(l:List α)(p k:Nat)(hp:p<=l.length)(a:k<p):(l.take p).reverse[k]?=l[p-1-k]?:=by rw [List.getElem?_reverse (by simp;omega),ahv,ae6,if_pos (by omega)];congr 1;omega
theorem ab8 {b:List Nat}{X:Nat->Nat×Inst}{a:List Inst}(c:a.length=b.length)(h:∀p x,a[p]?=some x->(X p).2=x):∀p,p<=b.length->
  Aw b X p=(((((b.zip a).take p).filter λy=>aQ y.2).map (·.1)).reverse):=by
 intro p;induction p with
 | zero=>intro _;rfl
 | succ p ih=>
  intro i;have d:p<(b.zip a).length:=by rw [List.length_zip];omega
  have e:(b.zip a)[p]=(b[p]'(by omega),a[p]'(by omega)):=List.getElem_zip ..;rw [abA d,List.filter_append,adJ,List.reverse_append,← ih (by omega)];have f:(X p).2=a[p]'(by omega):=h p _ (y7 (by omega));have g:b.getD p 0=b[p]'(by omega):=by rw [Y8,y7 (by omega)];rfl
  simp only [Aw,e,f,g];cases he:aQ (a[p]'(by omega))<;>simp [he]
theorem Gt {α:Type}(f:α->Bool)(l:List α){p q:Nat}(d:p<q)(hp:p<l.length)(c:f l[p]=true):((l.take p).filter f).length<((l.take q).filter f).length:=by
 have b:l.take (p+1)=(l.take q).take (p+1):=by rw [List.take_take];congr 1;omega
 have a:((l.take (p+1)).filter f).length<=((l.take q).filter f).length:=by rw [b];exact ((List.take_sublist _ _).filter f).length_le
 rw [abA hp,List.filter_append] at a;simp [c] at a;omega
theorem Yn {n:Nat}{l:List (Nat×Inst)}(E:zV P slots ops=some (.dreg n l))(a4:∀(i:Nat)(o:Oper)(t:Tmp),ops[i]?=some o->o.dst=some t->t<nt){b:Nat}{S:Nat->DS}(a5:(S 0).ls=[])(a3:(S 0).gs=[(S 0).m])(ad:∀p x,l[p]?=some x->OY cf b x (S p) (S (p+1))):
  ∃ord X,Fixed P slots nt cf b ops ord X S∧l.length=ord.length∧∀p x,l[p]?=some x->X p=x:=by
 unfold zV at E;split at E;cases E;rename_i d a1;split at E;rename_i W;cases E;generalize hord:canon (FD ops) (masks ops.toList) ops.size=ord at *;simp only [XE,l9] at W;obtain⟨⟨⟨⟨c1,c2⟩,c3⟩,c4⟩,c5⟩:=W;obtain⟨V,a0⟩:=Vx _ _ _ a1;obtain⟨a8,C⟩:=Pd (masks ops.toList) (ord.zip d) [] 0;have I:(ord.zip d).length=ord.length:=by rw [List.length_zip];omega
 generalize hl:numbered (masks ops.toList) (ord.zip d) [] 0=l at *;have M:∀p i x,ord[p]?=some i->d[p]?=some x->(ord.zip d)[p]?=some (i,x):=λp i x g u=>by rw [ahz];exact⟨g,u⟩
 have D:∀p i,ord[p]?=some i->∃x o,d[p]?=some x∧ops[i]?=some o∧qA P slots (iE ops ord p) ops i=some (x,o.dst)∧(l.getD p default).2=x∧l[p]?=some (l.getD p default):=by intro p i f;obtain⟨x,o,g,u,G⟩:=a0 p i f;obtain⟨c,v,_⟩:=C p i x (M p i x f g);refine⟨x,o,g,u,by simpa using G,by rw [Y8,v];rfl,by rw [Y8,v];rfl⟩
 have a6:∀i∈ord,i<ops.size:=λi R=>Eq.mp Y3 (aaI.1 c2 i R);have w:∀p i x,ord[p]?=some i->d[p]?=some x->vM (masks ops.toList) ops i x ((ord.zip d).take p).reverse=true:=λp i x g u=>by have:=OX c5 p (i,x) (M p i x g u);simpa using this
 have K:∀p q j,q<p->p<=ord.length->ord[q]?=some j->∃x,(j,x)∈((ord.zip d).take p).reverse∧d[q]?=some x:=λp q j A f T=>by obtain⟨x,_,g,_⟩:=D q j T;refine⟨x,al9.2 ?_,g⟩;refine Xb (i:=q) ?_;rw [ae6,if_pos A];exact M q j x T g
 have L:∀p i,p<ord.length->ord[p]?=some i->∀y,Tn (masks ops.toList) i ((ord.zip d).take p).reverse y=true->Pe ops ord (λp=>l.getD p default) p i y:=by
  intro p i f R y F;cases y with
  | con c=>trivial
  | loc k=>
   simp only [Tn] at F;split at F;rename_i z N;have hk:k<p:=by have:=(y8.1 N).1;simp at this;omega
   rw [LY _ _ _ (by omega) hk] at N;obtain⟨g,_⟩:=ahz.1 N;exact⟨z.1,hk,g,gV ops i z.1 F⟩;cases F
  | slot j=>intro q A e;obtain⟨x,hm,hx⟩:=K p q (ord[q]'(by omega)) A (by omega) (y7 (by omega));obtain⟨x',o',g,_,_,u,_⟩:=D q (ord[q]'(by omega)) (y7 (by omega));rw [hx] at g;cases g;have:=aaI.1 F _ hm;rw [u] at e;simp [e] at this
 refine⟨ord,λp=>l.getD p default,⟨zk c1,λi R=>?_,a6,λp i f=>?_,λp f=>?_,λp i f Q q j A T=>?_,λp i o f B e he hb=>?_,λi j oi oj t R T g u=>?_,λi o t B ht q oq A a7 ac=>?_,λp i f y F=>?_,
  λp i y wt f hg=>?_,λp i o f B=>?_,λp q o o' aa A B H=>?_,a4,a3,a5⟩,by rw [a8,I],λp x h=>by simp [Y8,h]⟩
 have:=aaI.1 c3 i (abH.2 R);simpa using this;obtain⟨x,o,g,u,G,v,_⟩:=D p i f;obtain⟨o',J,Z,O,U,g5⟩:=lX G;rw [u] at J;cases J;exact⟨o,u,by show (l.getD p default).2.op=_;rw [v];exact O,by show (l.getD p default).2.dst=_;rw [v];exact U,by show nV _ _ _ (l.getD p default).2.guard;rw [v];exact g5⟩;obtain⟨x,o,_,_,_,_,h5⟩:=D p (ord[p]) (y7 f);exact ad p _ h5;obtain⟨x,o,g,u,G,v,_⟩:=D p i f;have Q:aQ (l.getD p default).2=true:=Q;rw [v] at Q;have s:=w p i x f g;simp only [vM,l9] at s;have s:=s.1.1.1;unfold aQ at Q;split at Q;rename_i eo a2;rw [a2] at s;obtain⟨x',hm,_⟩:=K p q j A (by have:=(y8.1 f).1;omega) T;exact gV ops i j (aaI.1 s _ hm);cases Q;obtain⟨x,o',g,u,G,v,_⟩:=D p i f;have s:=w p i x f g;simp only [vM,l9] at s;have s:=s.1.1.2;rw [B] at s;simp only [l9] at s;have:=aaI.1 s.1 e (by simpa using he);rw [hb] at this;simp only [aj0,amx] at this;obtain⟨y,F,ae⟩:=List.any_eq_true.1 this;obtain⟨q,A⟩:=aax (al9.1 F);rw [ae6] at A;split at A;rename_i ab;obtain⟨J,_⟩:=ahz.1 A;exact⟨q,ab,by rw [J];simpa using ae⟩;cases A;exact qV (zk c4) (by simpa using R) (by simpa using T) g u;obtain⟨p,f⟩:=aax (show i∈ord from by have:=aaI.1 c3 i (abH.2 (J4.1 B).1);simpa using this);obtain⟨x,o',g,u,G,v,_⟩:=D p i f;have s:=w p i x f g;simp only [vM,l9] at s;have s:=s.1.1.2;rw [B] at s;simp only [l9] at s;have:=aaI.1 (aaI.1 s.2 t ht) q (abH.2 (J4.1 A).1);rw [A] at this;simp only [ac,bne_self_eq_false,Bool.or_false,aa2,beq_iff_eq] at this;rcases this with (h | h) | h;exact absurd h a7;exact .inl (gV ops i q h);exact .inr (gV ops q i h);obtain⟨x,o',g,u,G,v,_⟩:=D p i f;have s:=w p i x f g;simp only [vM,l9] at s;have F:y∈Fg (l.getD p default).2.op:=F;rw [v] at F;exact L p i (y8.1 f).1 f y (aaI.1 s.1.2 y F);obtain⟨x,o',g,u,G,v,_⟩:=D p i f;have s:=w p i x f g;simp only [vM,l9] at s
 have hg:(l.getD p default).2.guard=some (y,wt):=hg;rw [v] at hg;have s:=s.2;rw [hg] at s;exact L p i (y8.1 f).1 f y s;obtain⟨x,o',g,u,G,v,h5⟩:=D p i f;obtain⟨c,J,Z,_⟩:=C p i x (M p i x f g);have B:(l.getD p default).2.op=.r o:=B;rw [v] at B;have s:(l.getD p default).1=c:=by rw [Y8,J];rfl
 show (l.getD p default).1=_;rw [s,Z (by simp [isR,B]),abI,ab8 V (λp x Y=>?_) p (ahs (y8.1 f).1)];have a9:p<ord.length:=by have:=(y8.1 Y).1;omega
 obtain⟨x',_,O,_,_,U,_⟩:=D p (ord[p]) (y7 a9);rw [Y] at O;cases O;exact U;have f:p<ord.length:=by omega
 obtain⟨x,o1,g,u,G,v,h5⟩:=D p (ord[p]) (y7 f);obtain⟨y,o2,k1,k2,k3,k4,k5⟩:=D q (ord[q]) (y7 A);obtain⟨c,J,_,Z⟩:=C p _ x (M p _ x (y7 f) g);obtain⟨c',O,_,U⟩:=C q _ y (M q _ y (y7 A) k1);have B:(l.getD p default).2.op=.a o:=B;have H:(l.getD q default).2.op=.a o':=H;rw [v] at B;rw [k4] at H;show (l.getD p default).1<(l.getD q default).1;rw [show (l.getD p default).1=c from by rw [Y8,J];rfl,show (l.getD q default).1=c' from by rw [Y8,O];rfl,Z (by simp [isR,B]),U (by simp [isR,H])];have af:(ord.zip d)[p]'(by rw [I];exact f)=(ord[p],x):=by have:=M p _ x (y7 f) g;rw [y7 (by rw [I];exact f)] at this;exact Y5 this
 have:=Gt (λy:Nat×Inst=>isA y.2) (ord.zip d) aa (by rw [I];exact f) (by rw [af];simp [isA,B]);omega;cases E
def uJ (n:Nat)(listed:Array Bool):Nat:=((List.range n).filter λi=>!listed.getD i false).length
theorem Cv {listed:Array Bool}{n i:Nat}(g:listed.size=n)(hi:i<n)(b:listed.getD i false=false):uJ n (listed.setIfInBounds i true)+1=uJ n listed:=by
 unfold uJ;have c:∀l:List Nat,l.Nodup->(l.filter λj=>!(listed.setIfInBounds i true).getD j false).length+(if i∈l then 1 else 0)=(l.filter λj=>!listed.getD j false).length:=by
  intro l;induction l with
  | nil=>intro _;simp
  | cons x l ih=>
   intro h;obtain⟨d,f⟩:=ad1.1 h;have:=ih f;by_cases hx:x=i;subst hx;rw [if_neg d] at this;rw [if_pos (by simp),ahG (by rw [aM _ _ _ (by omega),if_pos rfl];simp),ahI (by rw [b];rfl),J6];omega;have e:(listed.setIfInBounds i true).getD x false=listed.getD x false:=by rw [aM _ _ _ (by omega),if_neg hx]
   have a:(i∈x::l)↔i∈l:=Y4.trans ⟨λh=>h.resolve_left (λe=>hx e.symm),.inr⟩;simp only [a];cases hl:listed.getD x false with
   | true=>rw [ahG (by rw [e,hl];simp),ahG (by rw [hl];simp)];exact this
   | false=>rw [ahI (by rw [e,hl];rfl),ahI (by rw [hl];rfl),J6,J6];omega
 have:=c (List.range n) List.nodup_range;rw [if_pos (abH.2 hi)] at this;exact this
theorem Yo {b:Nat}{a:List Nat}{X:Nat->Nat×Inst}{S:Nat->DS}{listed:Array Bool}(F:Fixed P slots nt cf b ops a X S)(c:∀p,p<a.length->Lp a listed p=true):∀p,p<=a.length->Az a X S listed p=(S p).env:=by
 intro p;induction p with
 | zero=>intro _;rfl
 | succ p ih=>intro e;obtain⟨_,d⟩:=F.ls (p:=p) (by omega);rw [d,← ih (by omega)];show dS (X p).2.dst (vm a S listed p) _=_;simp [vm,c p (by omega)]
def RQ (P:Program)(G:Mem)(slots:List Nat)(nt:Nat)(cf:F8)(r:Option Nat):Prop:=
 ∀(ops:Array Oper) (n:Nat) (l:List (Nat×Inst)),zV P slots ops=some (.dreg n l)->(∀(i:Nat) (o:Oper) (t:Tmp),ops[i]?=some o->o.dst=some t->t<nt)->
  ∀(Q:Exit->Act->World->Prop) (env:T o7) (m:Mem) (ι:K7) (w:World) (a:Act) (outs:List EM),
  RM P G ι m w.heap->W9 ι (m.nm ι) slots env a.tmps->nt<=a.tmps.size->vI l cf m.nx [] env (reserve n m) [reserve n m]=some outs->
  (∀e∈outs,e.px=none->e.mks=[]->∀ι' w' a',Step P G ι m w ι' e.m w'->W9 ι' (e.m.nm ι') slots e.env a'.tmps->a'.defers=a.defers->a'.tmps.size=a.tmps.size->Q .normal a' w')->
  (∀e∈outs,∀y,e.px=some y->e.mks=[]->∀ι' w' a',Step P G ι m w ι' e.m w'->y.lt (e.m.nm ι')->W9 ι' (e.m.nm ι') slots e.env a'.tmps->a'.defers=a.defers->a'.tmps.size=a.tmps.size->Q (.panic [{v:=u6 ι' y,recovered:=false}]) a' w')->
  wpAnyIn (FR r) 0 P .any ops Q ops.size (Array.replicate ops.size false) a {w with drawn:=w.drawn+1}
theorem DI (ai:nR P G cf)(slots:List Nat)(nt:Nat)(r:Option Nat):RQ P G slots nt cf r:=by
 intro ops n l b7 bb Q b4 m ι w a b3 hm b8 a7 hv hQ b6;obtain⟨S,a0,aw⟩:=RO (cf:=cf) (b:=m.nx) l ⟨[],b4,reserve n m,[reserve n m]⟩ b3 hv;have be:∀p x,l[p]?=some x->OY cf m.nx x (S p) (S (p+1)):=by rcases aw with⟨h,_⟩ | ⟨N,Dd,y,m',es,h,_⟩;exact λp x g=>.inl (h p x g);intro p x g;rcases h.step p x g with⟨_,h⟩ | ⟨_,_,h,_⟩;exact .inl h;exact .inr h
 obtain⟨c,X,F,b0,ah⟩:=Yn (cf:=cf) (b:=m.nx) (S:=S) b7 bb (by rw [a0]) (by rw [a0]) be;have I:∀p,p<c.length->∃x,l[p]?=some x∧X p=x:=λp g=>⟨l[p]'(by omega),y7 (by omega),ah p _ (y7 (by omega))⟩;have hb:m.lim<=m.nx:=hm.limn;have U:W9 ι (m.nm ι) slots (S 0).env a.tmps:=by rw [a0];exact b8
 have af:Step P G ι m w ι (reserve n m) {w with drawn:=w.drawn+1}:=(Step.drew hm _).trans (Av n (Step.drew hm (w.drawn+1)).rm);have v:∀i,(Array.replicate ops.size false).getD i false=false:=λi=>by rw [J7,abE];split<;>rfl
 have K:∀p,Lp c (Array.replicate ops.size false) p=false:=λp=>by unfold Lp;split;exact v _;rfl
 rcases aw with⟨hlv,hout⟩ | ⟨N,Dd,y,m',es,hPan,hout⟩;have al:∀p,p<c.length->DStep cf m.nx (X p) (S p) (S (p+1)):=λp g=>by obtain⟨x,R,rfl⟩:=I p g;exact hlv p _ R
 have a9:∀(u:Nat) (listed:Array Bool) (Y:Act) (w':World) (M:K7) (q:Nat),lD P G m.nx ops c X S ι m w a listed Y w' M q->uJ ops.size listed=u->
   wpAnyIn (FR r) 0 P .any ops Q u listed Y w':=by
  intro u;induction u with
  | zero=>
   intro listed Y w' M q D f;have a1:∀i,i<ops.size->listed.getD i false=true:=λi V=>by
    cases hl:listed.getD i false with
    | true=>rfl
    | false=>have:i∈(List.range ops.size).filter λi=>!listed.getD i false:=ad2.2 ⟨abH.2 V,by rw [hl];rfl⟩;rw [Z8.1 f] at this;cases this
   have W:∀p,p<c.length->Lp c listed p=true:=λp g=>by rw [kC (y7 g)];exact a1 _ (F.lt _ (abD g))
   refine⟨?_,?_⟩;unfold Region.ready;refine ahL.2 λi V=>?_;have V:=abH.1 V;have T:listed.getD i true=true:=by have:=a1 i V;rw [J7,aav (by rw [D.len];exact V)] at this ⊢;exact this
   simp [T];have hq:=D.hq;have ae:=F.lay_all (q:=q) (L:=Lp c listed) (c.length-q) (by omega) λk hk=>⟨W _ (by omega),by
    cases he:aQ (X (q+k)).2 with
    | false=>rfl
    | true=>have:=D.high (q+k) (by omega) he;rw [W _ (by omega)] at this;cases this⟩
   rw [show q+(c.length-q)=c.length from by omega] at ae;have ac:=D.lay F hb (c.length-q) (by omega);have s:=D.st F hb U a7 (c.length-q) (by omega) c.length (by omega);rw [ae] at ac s;have ad:=s.env;rw [Yo F W c.length (aP _)] at ad;refine hQ ⟨(S c.length).env,(S c.length).m,none,[]⟩ (by rw [hout,← b0];exact aA.2 rfl) rfl rfl M w' Y ac (ad.TJ (by rw [kU,D.sz]) λt=>?_) D.defs D.sz;by_cases hw:∃(i:Nat) (o:Oper),ops[i]?=some o∧o.dst=some t;obtain⟨i,o,C,ht⟩:=hw;obtain⟨p,g⟩:=aax (F.all i (J4.1 C).1);have H:=(y8.1 g).1;rw [D.tw p i o t g (a1 i (J4.1 C).1) C ht,Gs F a7 g C ht c.length H];simp [vm,W p H];rw [D.tn t λi o _ C ht=>hw ⟨i,o,C,ht⟩,AA c.length λr i o _ _ C ht=>hw ⟨i,o,C,ht⟩]
  | succ u ih=>
   intro listed Y w' M q D f;refine⟨λa6=>?_,λi V=>?_⟩
   ·
    exfalso;have aj:∃p,p<c.length∧Lp c listed p=false:=by have:((List.range ops.size).filter λi=>!listed.getD i false)≠[]:=λe=>(by unfold uJ at f;rw [e] at f;cases f);obtain⟨i,V⟩:=ahy _ this;obtain⟨T,O⟩:=ad2.1 V;obtain⟨p,g⟩:=aax (F.all i (abH.1 T));exact⟨p,(y8.1 g).1,by rw [kC g];simpa using O⟩
    have a5:∀N,(∃p,p<N∧p<c.length∧Lp c listed p=false)->∃p,p<c.length∧Lp c listed p=false∧∀q,q<p->Lp c listed q=true:=by
     intro N;induction N with
     | zero=>rintro⟨p,h,_⟩;omega
     | succ N ihN=>
      rintro⟨p,T,O,h3⟩;by_cases hx:∃p,p<N∧p<c.length∧Lp c listed p=false;exact ihN hx;refine⟨p,O,h3,λq hq=>?_⟩;cases hl:Lp c listed q with
      | true=>rfl
      | false=>exact absurd ⟨q,by omega,by omega,hl⟩ hx
    obtain⟨p0,am,an⟩:=aj;obtain⟨p,T,O,h3⟩:=a5 (p0+1) ⟨p0,by omega,am,an⟩;have g:=y7 T;have B:c[p]∈Region.ready .any ops listed:=by obtain⟨o,C,_⟩:=F.inst p _ g;refine mem_ready.2 ⟨?_,o,C,λe he A=>?_⟩;rw [kC g] at O;have E:c[p]<listed.size:=(by rw [D.len];exact F.lt _ (abD T));rw [J7,aav E] at O ⊢;exact O;obtain⟨q',ao,ap⟩:=F.edges p _ o g C e he A;have:=h3 q' ao;rw [kC ap] at this;exact this
    rw [a6] at B;cases B
   obtain⟨z,o,C,hr⟩:=mem_ready.1 V;have E:i<listed.size:=by rw [D.len];exact (J4.1 C).1
   have z:listed.getD i false=false:=by rw [J7,aav E] at z ⊢;exact z
   refine lD.op ai F hb U a7 D C z hr (λp g=>al p (y8.1 g).1) λa2 w2 aa q2 D2=>?_;refine ih _ a2 w2 aa q2 D2 ?_;have:=Cv D.len (by rw [← D.len];exact E) z;omega
 refine a9 _ _ a _ ι 0 ⟨aft _,.inl rfl,λp g=>by omega,λp _ _=>K p,by rw [a0];exact af,(λd i ag h=>by rw [K] at h;cases h),(λd d' i i' ag ar _ h=>by rw [K] at h;cases h),
  (λd h=>by rw [K] at h;cases h),(λp g=>by omega),(λp i o t _ h=>by rw [v] at h;cases h),λt _=>rfl,rfl,rfl,(λi o h=>by rw [v] at h;cases h),by simp⟩ ?_
 unfold uJ;rw [ahx.2 (λi _=>by rw [v];rfl),ahJ];obtain⟨xN,eoN,az,bc,b9⟩:=hPan.at_;have au:N<c.length:=by have:=(y8.1 az).1;omega
 obtain⟨iN,a8⟩:∃i,c[N]?=some i:=⟨_,y7 au⟩;have ba:iN<ops.size:=F.lt _ (Xb a8);have av:=ah N xN az;have bf:(X N).2.op=.e eoN:=by rw [av];exact bc
 have b5:Lc (X N).2.guard (om eoN) cf (S N).ls (S N).env (S N).m=some [⟨.nN y,m'⟩]:=by rw [av];exact b9
 have J:∀p i,c[p]?=some i->Dd p=true->p=N∨Ct ops i iN:=by
  intro p;induction p using Nat.strongRecOn with
  | _ p ihp=>
   intro i g hd;have H:=(y8.1 g).1;obtain⟨x,R,aq⟩:=I p H;rcases hPan.step p x R with⟨h,_⟩ | ⟨hNp,_,_,hw⟩;rw [hd] at h;cases h;rcases hw with h | h | ⟨k,hk,q,hqp,hkq,hq⟩;exact .inl h;by_cases hpN':p=N;exact .inl hpN';obtain⟨eo,he⟩:=h;exact .inr (F.eff p i g (by rw [aq];simp [aQ,he]) N iN (by omega) a8);have bd:Pe ops c X p i (.loc k):=by rcases hk with hk | ⟨wt,hk⟩;exact F.opd p i g _ (by rw [aq];exact hk);exact F.opdg p i _ wt g (by rw [aq];exact hk)
   obtain⟨j,bh,ak,ay⟩:=bd;have e:p-1-k=q:=by omega
   rw [e] at ak;rcases ihp q hqp j ak hq with rfl | h;obtain rfl:=Y5 (ak.symm.trans a8);exact .inr ay;exact .inr (ay.trans h)
 have a9:∀(u:Nat) (listed:Array Bool) (Y:Act) (w':World) (M:K7) (q:Nat),lD P G m.nx ops c X S ι m w a listed Y w' M q->listed.getD iN false=false->uJ ops.size listed=u->
   wpAnyIn (FR r) 0 P .any ops Q u listed Y w':=by
  intro u;induction u with
  | zero=>intro listed Y w' M q D Z f;exfalso;have:iN∈(List.range ops.size).filter λi=>!listed.getD i false:=ad2.2 ⟨abH.2 ba,by rw [Z];rfl⟩;rw [Z8.1 f] at this;cases this
  | succ u ih=>
   intro listed Y w' M q D Z f;refine⟨λa6=>?_,λi V=>?_⟩
   ·
    exfalso;have aj:∃p,p<c.length∧Lp c listed p=false:=by have:((List.range ops.size).filter λi=>!listed.getD i false)≠[]:=λe=>(by unfold uJ at f;rw [e] at f;cases f);obtain⟨i,V⟩:=ahy _ this;obtain⟨T,O⟩:=ad2.1 V;obtain⟨p,g⟩:=aax (F.all i (abH.1 T));exact⟨p,(y8.1 g).1,by rw [kC g];simpa using O⟩
    have a5:∀N,(∃p,p<N∧p<c.length∧Lp c listed p=false)->∃p,p<c.length∧Lp c listed p=false∧∀q,q<p->Lp c listed q=true:=by
     intro N;induction N with
     | zero=>rintro⟨p,h,_⟩;omega
     | succ N ihN=>
      rintro⟨p,T,O,h3⟩;by_cases hx:∃p,p<N∧p<c.length∧Lp c listed p=false;exact ihN hx;refine⟨p,O,h3,λq hq=>?_⟩;cases hl:Lp c listed q with
      | true=>rfl
      | false=>exact absurd ⟨q,by omega,by omega,hl⟩ hx
    obtain⟨p0,am,an⟩:=aj;obtain⟨p,T,O,h3⟩:=a5 (p0+1) ⟨p0,by omega,am,an⟩;have g:=y7 T;have B:c[p]∈Region.ready .any ops listed:=by obtain⟨o,C,_⟩:=F.inst p _ g;refine mem_ready.2 ⟨?_,o,C,λe he A=>?_⟩;rw [kC g] at O;have E:c[p]<listed.size:=(by rw [D.len];exact F.lt _ (abD T));rw [J7,aav E] at O ⊢;exact O;obtain⟨q',ao,ap⟩:=F.edges p _ o g C e he A;have:=h3 q' ao;rw [kC ap] at this;exact this
    rw [a6] at B;cases B
   obtain⟨z,o,C,hr⟩:=mem_ready.1 V;have E:i<listed.size:=by rw [D.len];exact (J4.1 C).1
   have z:listed.getD i false=false:=by rw [J7,aav E] at z ⊢;exact z
   by_cases hiN':i=iN;subst hiN';have a3:∀p,N<p->Lp c listed p=true->Dd p=false:=λp g W=>by
    cases hd:Dd p with
    | false=>rfl
    | true=>exfalso;have H:=wB W;have b2:=y7 H;rcases J p _ b2 hd with h | h;omega;rw [kC b2] at W;have:=h.listed D.closed λo' ab e he A=>D.closed _ o' W ab e he A;rw [Z] at this;cases this
   refine lD.nN ai F hb U a7 D a8 C z hr bf b5 (λp g H W=>?_) λaa w2 ac b1 a4=>?_;obtain⟨x,R,rfl⟩:=I p H;exact hPan.na p _ g R (a3 p g W);have B:=hPan.envs (Lp c listed) a3;have bg:∀k,Pj c X S listed N k=Ep (l.drop (N+1)) (λk=>(S (N+1+k+1)).ls.headD .undef) (λk=>Lp c listed (N+1+k)) (S N).env k:=by
    intro k;induction k with
    | zero=>rfl
    | succ k ihk=>
     rw [Pj,Ep,afx,ihk];cases hlk:l[N+1+k]? with
     | some x=>rw [ah _ _ hlk];rfl
     | none=>
      have:Lp c listed (N+1+k)=false:=by
       cases W:Lp c listed (N+1+k) with
       | false=>rfl
       | true=>have T:=wB W;have O:=List.getElem?_eq_none_iff.1 hlk;omega
      rw [this,if_neg (by decide)]
   rw [bg,← b0] at a4;exact b6 ⟨_,m',some y,[]⟩ (by rw [hout,Pb];exact ahw B) y rfl rfl aa w2 Y ac b1 a4 D.defs D.sz;have ax:∀j,Ct ops i j->listed.getD j false=true:=λj hj=>hj.listed D.closed λo' ab e he A=>by rw [C] at ab;cases ab;exact hr e he A
   refine lD.op ai F hb U a7 D C z hr (λp g=>?_) λa2 w2 aa q2 D2=>?_;have H:=(y8.1 g).1;obtain⟨x,R,rfl⟩:=I p H;rcases hPan.step p _ R with⟨_,h⟩ | ⟨hNp,hDd,_,_⟩;exact h;exfalso;rcases J p i g hDd with rfl | h;exact hiN' (Y5 (g.symm.trans a8));have:=ax _ h;rw [Z] at this;cases this;refine ih _ a2 w2 aa q2 D2 ?_ ?_;rw [aM _ _ _ E,if_neg (ahE hiN')];exact Z;have:=Cv D.len (by rw [← D.len];exact E) z;omega
 refine a9 _ _ a _ ι 0 ⟨aft _,.inl rfl,λp g=>by omega,λp _ _=>K p,by rw [a0];exact af,(λd i ag h=>by rw [K] at h;cases h),(λd d' i i' ag ar _ h=>by rw [K] at h;cases h),
  (λd h=>by rw [K] at h;cases h),(λp g=>by omega),(λp i o t _ h=>by rw [v] at h;cases h),λt _=>rfl,rfl,rfl,(λi o h=>by rw [v] at h;cases h),by simp⟩ (v _) ?_
 unfold uJ;rw [ahx.2 (λi _=>by rw [v];rfl),ahJ]
end
section
variable {F:Fence}{n:Nat}{P:Program}
theorem RS {o:Oper}{a:Act}{w:World}{K j:Act->World->Prop}{Q Q':Exit->Act->World->Prop}(g:∀a w,K a w->j a w)(h:∀c a w,Q (.panic c) a w->Q' (.panic c) a w)(f:LetsOut Q->LetsOut Q')
  (b:o.wpIn F n P a w K Q):o.wpIn F n P a w j Q':=by
 unfold Oper.wpIn at *;refine⟨b.1,?_⟩;have b:=b.2;generalize (o.semAt F.round a.eval).run P w=r at *;cases r with
 | ok x w'=>
  cases x<;>simp only [Oper.uponIn] at b ⊢ <;>
   first
    | exact g _ _ b
    | exact⟨b.1,aj8 b.2 (λe i d=>by cases e<;>first | exact g _ _ d | exact h _ _ _ d | exact f d)⟩
    | exact⟨b.1,RowsIn.mono b.2 (λ_ _ d=>g _ _ d)⟩
    | exact⟨b.1,RoundIn.mono b.2 (λe i d=>by cases e<;>first | exact g _ _ d | exact h _ _ _ d | exact f d)⟩
 | halt x w'=>cases x<;>simp only [Oper.uponIn] at b ⊢ <;> first | exact b | exact h _ _ _ b
theorem least {p:Nat->Prop}(h:∃j,p j):∃j,p j∧∀q,q<j->¬ p q:=by
 obtain⟨j,c⟩:=h;induction j using Nat.strongRecOn with
 | _ j ih=>by_cases hx:∃q,q<j∧p q;obtain⟨q,a,b⟩:=hx;exact ih q a b;exact⟨j,c,λq e d=>hx ⟨q,e,d⟩⟩
theorem Gu {ops:Array Oper}{listed:Array Bool}(b:kT ops listed)(hs:listed.size=ops.size){i:Nat}{o:Oper}(g:ops[i]?=some o)
  (k:∀e∈o.after,Region.binds .any e=true->listed.getD e.on false=true):kT ops (listed.setIfInBounds i true):=by
 have h:i<listed.size:=by rw [hs];exact (J4.1 g).1
 intro j l c a e f d;rw [aM _ _ _ h] at c ⊢;by_cases hji:j=i;subst hji;rw [g] at a;cases a;rw [k e f d];split<;>rfl
 rw [if_neg hji] at c;rw [b j l c a e f d];split<;>rfl
theorem AJ {A:Array Bool}{i:Nat}(hi:i<A.size):A.getD i true=A.getD i false:=by rw [J7,J7,aav hi];rfl
theorem Pk {o:Oper}(h:o.guard=none)(y:Nat->Option Bool):Region.wanted o y=true:=by unfold Region.wanted;rw [h]
theorem Ji {ops:Array Oper}{k:Nat}(T:k<=ops.size)(S:∀(i:Nat)(o:Oper),ops[i]?=some o->o.guard=none)
  (l:∀(i:Nat) (o:Oper),ops[i]?=some o->∀e∈o.after,Region.binds .any e=true->e.on<i)
  (r:∀i,k<=i->i<ops.size->∀j,j<k->Ct ops i j) {Q Q1:Exit->Act->World->Prop} (R:∀c a w,Q1 (.panic c) a w->Q (.panic c) a w) (B:LetsOut Q1->LetsOut Q)
  (q:∀a w,Q1 .normal a w->∀listed:Array Bool,listed.size=ops.size->kT ops listed->(∀j,listed.getD j false=decide (j<k))->wpAnyIn F n P .any ops Q (ops.size-k) listed a w):
  ∀(fuel:Nat) (listed lp:Array Bool) (a:Act) (w:World),listed.size=ops.size->lp.size=k->(∀j,listed.getD j false=lp.getD j false)->kT ops listed->uJ k lp=fuel->
   wpAnyIn F n P .any (ops.extract 0 k) Q1 fuel lp a w->wpAnyIn F n P .any ops Q (fuel+(ops.size-k)) listed a w:=by
 intro fuel;induction fuel with
 | zero=>
  intro listed lp a w A K d b u h;rw [Z9];refine q a w h.2 listed A b λj=>?_;rw [d j];by_cases hj:j<k;have:lp.getD j false=true:=by
   cases hx:lp.getD j false with
   | true=>rfl
   | false=>have:j∈(List.range k).filter λi=>!lp.getD i false:=ad2.2 ⟨abH.2 hj,by rw [hx];rfl⟩;rw [Z8.1 u] at this;cases this
  rw [this];simp [hj];rw [J7,ae3 (by omega)];simp [hj]
 | succ fuel ih=>
  intro listed lp a w A K d b u h;rw [show fuel+1+(ops.size-k)=(fuel+(ops.size-k))+1 from by omega];have s:∃j,j<k∧lp.getD j false=false:=by
   have:((List.range k).filter λi=>!lp.getD i false)≠[]:=λe=>by unfold uJ at u;rw [e] at u;cases u
   obtain⟨i,D⟩:=ahy _ this;obtain⟨p,N⟩:=ad2.1 D;exact⟨i,abH.1 p,by simpa using N⟩
  refine⟨λx=>?_,λi D=>?_⟩;exfalso;obtain⟨j,⟨t,m⟩,I⟩:=least s;have f:=aav (xs:=ops) (i:=j) (by omega);have:j∈Region.ready .any ops listed:=mem_ready.2 ⟨by rw [AJ (by omega),d,m],_,f,λe J C=>by
   have v:=l j _ f e J C;cases hx:listed.getD e.on false with
   | true=>rfl
   | false=>exact absurd ⟨by omega,by rw [← d];exact hx⟩ (I e.on v)⟩
  rw [x] at this;cases this;obtain⟨M,o,f,L⟩:=mem_ready.1 D;have G:i<ops.size:=(J4.1 f).1;have E:i<k:=by refine Nat.lt_of_not_le λH=>?_;obtain⟨j,t,m⟩:=s;have:=(r i H G j t).listed b (λU y=>by rw [f] at y;cases y;exact L);rw [d j,m] at this;cases this
  have z:(ops.extract 0 k)[i]?=some o:=by rw [Array.getElem?_extract,if_pos (by omega),Z9];exact f
  have g:listed.getD i false=false:=by rw [← AJ (by omega)];exact M
  have p:=h.2 i (mem_ready.2 ⟨by rw [AJ (by omega),← d];exact g,o,z,λe J C=>by rw [← d];exact L e J C⟩);unfold wpOpIn at p ⊢;rw [z] at p;rw [f];simp only [Pk (S i o f),if_true] at p ⊢;refine RS (λa w O=>ih _ _ a w (by simpa using A) (by simpa using K) (λj=>?_) (Gu b A f L) ?_ O) R B p;rw [aM _ _ _ (by omega),aM _ _ _ (by omega),d j];have:=Cv (n:=k) (listed:=lp) K E (by rw [← d];exact g);omega
end
theorem Cw {x:Q8}(h:Oi x=true)(ls:List o7)(env:T o7):G9 x ls env=G9 x [] env:=by cases x<;>first | rfl | cases h
theorem T.wC {α:Type}:∀(t:T α) (i j:Nat) {x y:α},t.get i=some x->t.get j=some y->i≠j->∀a b:α,(t.put i a).put j b=(t.put j b).put i a
 | .e,i,j,x,y,h,_,_,_,_=>by cases h
 | .nd l v r,i,j,x,y,hi,hj,hne,a,b=>by
  have hp:∀(l r:T α) (v:α) (k:Nat) (c:α),(T.nd l v r).put (k+1) c=(Nat.rec (.nd (l.put (Nat.div k 2) c) v r) (λ_ _=>.nd l v (r.put (Nat.div k 2) c)) (Nat.mod k 2):T α):=λ_ _ _ _ _=>rfl;have hg:∀(k:Nat),(T.nd l v r).get (k+1)=(Nat.rec (l.get (Nat.div k 2)) (λ_ _=>r.get (Nat.div k 2)) (Nat.mod k 2):Option α):=λ_=>rfl;have hm:∀k:Nat,Nat.mod k 2=0∨Nat.mod k 2=1:=λk=>by have:Nat.mod k 2<2:=aiW _ (by omega);omega
  have h0:∀(l r:T α) (v c:α),(T.nd l v r).put 0 c=.nd l c r:=λ_ _ _ _=>rfl;have hd:∀k q:Nat,Nat.mod k 2=Nat.mod q 2->k≠q->Nat.div k 2≠Nat.div q 2:=λk q h1 h2=>by have e1:Nat.mod k 2=k%2:=rfl;have e2:Nat.mod q 2=q%2:=rfl;have e3:Nat.div k 2=k / 2:=rfl;have e4:Nat.div q 2=q / 2:=rfl;omega
  cases i with
  | zero=>
   cases j with
   | zero=>exact absurd rfl hne
   | succ q=>rw [h0,hp,hp];rcases hm q with e | e<;>rw [e]<;>rfl
  | succ k=>
   cases j with
   | zero=>rw [h0,hp,hp];rcases hm k with e | e<;>rw [e]<;>rfl
   | succ q=>
    rw [hg] at hi hj;rw [hp,hp];have hne':k≠q:=λe=>hne (by rw [e]);rcases hm k with e | e<;>rcases hm q with e' | e'<;>rw [e] at hi ⊢ <;> rw [e'] at hj ⊢
    show (T.nd (l.put (Nat.div k 2) a) v r).put (q+1) b=(T.nd (l.put (Nat.div q 2) b) v r).put (k+1) a;rw [hp,hp,e,e'];show T.nd _ _ _=T.nd _ _ _;rw [T.wC l _ _ hi hj (hd k q (by rw [e,e']) hne') a b];show (T.nd (l.put (Nat.div k 2) a) v r).put (q+1) b=(T.nd l v (r.put (Nat.div q 2) b)).put (k+1) a;rw [hp,hp,e,e'];rfl;show (T.nd l v (r.put (Nat.div k 2) a)).put (q+1) b=(T.nd (l.put (Nat.div q 2) b) v r).put (k+1) a;rw [hp,hp,e,e'];rfl;show (T.nd l v (r.put (Nat.div k 2) a)).put (q+1) b=(T.nd l v (r.put (Nat.div q 2) b)).put (k+1) a;rw [hp,hp,e,e'];show T.nd _ _ _=T.nd _ _ _;rw [T.wC r _ _ hi hj (hd k q (by rw [e,e']) hne') a b]
theorem Cx {a:Nat}{x y:OF}{cf:F8}{ls:List o7}{env:T o7}{m:Mem}{outs:List VM}(h:L8 a x y cf ls env m=some outs):
  ∃id off rs n rows rows',x ls env=.ptr id off∧Nat.beq (len' (y ls env).cells) a=true∧Nat.blt id m.lim=false∧N7 (y ls env).cells=true∧m.get id=some (.cells rs n rows)∧
   aT rs n rows off (y ls env).cells=some rows'∧outs=[⟨.undef,m.set id (.cells rs n rows')⟩]:=by
 obtain⟨id,off,b,h⟩:=fG h;obtain⟨c,h⟩:=D8 h;obtain⟨d,h⟩:=kJ h;obtain⟨e,h⟩:=D8 h;obtain⟨rs,n,rows,f,h⟩:=eu h;obtain⟨rows',g,h⟩:=D5 h;cases h;exact⟨id,off,rs,n,rows,rows',b,c,d,e,f,g,rfl⟩
theorem Pm {a:Nat}{x y:OF}{cf:F8}{ls:List o7}{env:T o7}{m:Mem}{id off rs n:Nat}{rows rows':T (List o7)}(b:x ls env=.ptr id off)(c:Nat.beq (len' (y ls env).cells) a=true)
  (d:Nat.blt id m.lim=false) (e:N7 (y ls env).cells=true) (f:m.get id=some (.cells rs n rows)) (g:aT rs n rows off (y ls env).cells=some rows'):
  L8 a x y cf ls env m=some [⟨.undef,m.set id (.cells rs n rows')⟩]:=by
 show iM (x ls env) _=_;rw [b];show bi (Nat.beq _ _) _ _=_;rw [c];show bi (Nat.blt id m.lim) _ _=_;rw [d];show bi (N7 _) _ _=_;rw [e];show P6 _ _=_;rw [f];show ob _ _=_;rw [g];rfl
theorem RU {A i:Nat}{x y p B:OF}{cf:F8}{ls ls':List o7}{env:T o7}{m:Mem}{id off b h:Nat}(s:x ls env=.ptr id off)(g:p ls' env=.ptr b h)(d:b≠id)
  {u v:List VM} (L:L8 A x y cf ls env m=some u) {m1:Mem} (K:u=[⟨.undef,m1⟩]) (M:L8 i p B cf ls' env m1=some v):
  ∃mc m2,v=[⟨.undef,m2⟩]∧L8 i p B cf ls' env m=some [⟨.undef,mc⟩]∧L8 A x y cf ls env mc=some [⟨.undef,m2⟩]:=by
 obtain⟨N,P,z,n,w,c,q,C,D,E,k,F,rfl⟩:=Cx L;cases K;rw [s] at q;cases q;obtain⟨O,Q,f,l,o,a,r,G,H,I,j,J,rfl⟩:=Cx M;rw [g] at r;cases r;rw [Mem.zn k,if_neg d] at j;refine⟨_,_,rfl,Pm g G H I j J,?_⟩;have:=Pm (m:=m.set b (.cells f l a)) (cf:=cf) s C D E (by rw [Mem.zn j,if_neg (ahE d)];exact k) F;rw [this];have e:(m.set b (.cells f l a)).set id (.cells z n c)=(m.set id (.cells z n c)).set b (.cells f l a):=by unfold Mem.set;rw [T.wC m.t b id j k d]
 rw [e]
section
variable {P:Program}{G:Mem}{ι:K7}{m:Mem}{w:World}{slots:List Nat}{done:List (Option Nat)}{ls:List o7}{env:T o7}{a:Act}{ops:Array Oper}{Q:Exit->Act->World->Prop}
theorem qI {r:Option Nat}{cf:F8}(c:nR P G cf)(s:St P ι (m.nm ι) slots done ls env a.tmps)(l:RM P G ι m w.heap){i:Nat}{o:Oper}(n:ops[i]?=some o)(k:o.guard=none)
  {v:o7} {m1:Mem} (p:TA cf (lu P slots done o.op) ls env m=some [⟨v,m1⟩]) (b:∀x,v≠.nN x) {K:Act->World->Prop}
  (j:∀ι' w',Step P G ι m w ι' m1 w'->v.lt (m1.nm ι')->K (a.put o.dst (u6 ι' v)) w'):wpOpIn (FR r) 0 P ops Q i K a w:=by
 unfold wpOpIn;rw [n];refine TD (g:=none) c s l (by rw [k];rfl) (outs:=[⟨v,m1⟩]) p ?_ ?_;intro x d ι' w' e f;obtain rfl:=aA.1 d;exact j ι' w' e f;intro x d y ι' w' h;obtain rfl:=aA.1 d;exact absurd h (b y)
theorem St.stepped {ι':K7}{m':Mem}{w':World}{tmps:Array Value}(s:St P ι (m.nm ι) slots done ls env tmps)(h:Step P G ι m w ι' m' w'):St P ι' (m'.nm ι') slots done ls env tmps:=
 St.mono (n:=m.nm ι) s h.ext (Mem.aH h.has h.ext)
theorem rW (a:Act)(v:Value):a.put none v=a:=rfl
theorem RV {r:Option Nat}{cf:F8}(C:nR P G cf){nt:Nat}(h3:3<=ops.size){po:WS}{s R:Nat}{v B v':Q8}{d1:Option Nat}
  (hx:qA P slots [] ops (ops.size-3)=some (⟨.p po,none,none⟩,d1)) (hy:qA P slots [(ops[ops.size-3]?).bind (·.dst)] ops (ops.size-2)=some (⟨.e (.store s (.loc 0) v),none,none⟩,none))
  (hz:qA P slots [] ops (ops.size-1)=some (⟨.e (.store R B v'),none,none⟩,none)) (am:Oi B=true) (b8:Oi v'=true)
  (ay:∀(i:Nat) (o:Oper) (t:Tmp),ops[i]?=some o->o.dst=some t->t<nt) (hg:∀(i:Nat) (o:Oper),ops[i]?=some o->o.guard=none)
  (af:∀(i:Nat) (o:Oper),ops[i]?=some o->∀e∈o.after,Region.binds .any e=true->e.on<i) (b9:Ct ops (ops.size-2) (ops.size-3))
  {es:List EM} (hm:RM P G ι m w.heap) (V:W9 ι (m.nm ι) slots env a.tmps) (ap:nt<=a.tmps.size)
  (hv:cZ [⟨.p po,none,none⟩,⟨.e (.store s (.loc 0) v),none,none⟩,⟨.e (.storeAp R B v' (.loc 1)),none,none⟩] cf [] env m=some es)
  (hQ:∀e∈es,e.px=none->e.mks=[]->∀ι' w' B,Step P G ι m w ι' e.m w'->W9 ι' (e.m.nm ι') slots e.env B.tmps->B.defers=a.defers->B.tmps.size=a.tmps.size->Q .normal B w')
  {listed:Array Bool} (hs:listed.size=ops.size) (ae:kT ops listed) (hl:∀j,listed.getD j false=decide (j<ops.size-3)):wpAnyIn (FR r) 0 P .any ops Q 3 listed a w:=by
 obtain⟨l1,h1,k1⟩:=Aq (o:=.p po) (d:=none) (g:=none) (k:=cZ [⟨.e (.store s (.loc 0) v),none,none⟩,⟨.e (.storeAp R B v' (.loc 1)),none,none⟩]) hv;obtain⟨x,hp,h1⟩:=D5 h1;cases h1;obtain⟨os1,ag,b0⟩:=k1 _ (aA.2 rfl);have ag:cZ [⟨.e (.store s (.loc 0) v),none,none⟩,⟨.e (.storeAp R B v' (.loc 1)),none,none⟩] cf [x] env m=some os1:=ag;obtain⟨l2,J,k2⟩:=Aq (o:=.e (.store s (.loc 0) v)) (d:=none) (g:=none) (k:=cZ [⟨.e (.storeAp R B v' (.loc 1)),none,none⟩]) ag;have J:L8 s (G9 (.loc 0)) (G9 v) cf [x] env m=some l2:=J;obtain⟨i1,o1,rs,n,bd,aj,a1,_,_,_,a5,_,e2⟩:=Cx J;obtain⟨os2,W,b4⟩:=k2 _ (by rw [e2];exact aA.2 rfl);generalize hm1:m.set i1 (.cells rs n aj)=m1 at e2 W;have W:cZ [⟨.e (.storeAp R B v' (.loc 1)),none,none⟩] cf [.undef,x] env m1=some os2:=W;obtain⟨l3,a8,k3⟩:=Aq (o:=.e (.storeAp R B v' (.loc 1))) (d:=none) (g:=none) (k:=u7) W;have a8:vE R (G9 B) (G9 v') (G9 (.loc 1)) cf [.undef,x] env m1=some l3:=a8;obtain⟨i2,o2,b1,av⟩:=fG a8;obtain⟨ba,o1',b2,aw⟩:=fG av;obtain⟨b3,ax⟩:=kJ aw;have ex:x=.ptr i1 o1:=a1;have al:x=.ptr ba o1':=b2;rw [ex] at al;cases al;have az:i2≠i1:=λe=>by rw [e] at b3;simp [aaz] at b3
 have au:G9 B [] env=.ptr i2 o2:=by rw [← Cw am [.undef,x] env];exact b1
 have a0:L8 R (G9 B) (G9 v') cf [] env m1=some l3:=by have e4:L8 R (G9 B) (G9 v') cf [.undef,x] env m1=some l3:=ax;rw [← e4];simp only [L8,Cw am [.undef,x] env,Cw b8 [.undef,x] env]
 obtain⟨mc,m2,e3,hc,hb⟩:=RU (x:=G9 (.loc 0)) (y:=G9 v) (ls:=[x]) (ls':=[]) a1 au az J e2 a0;obtain⟨os3,ah,b5⟩:=k3 ⟨.undef,m2⟩ (by rw [e3];exact aA.2 rfl);have ah:some [(⟨env,m2,none,[]⟩:EM)]=some os3:=ah;cases ah;have ao:(⟨env,m2,none,[]⟩:EM)∈es:=b0 _ (b4 _ (b5 _ (aA.2 rfl)));obtain⟨T,hA,rfl,a9,aa,_⟩:=lX hx;obtain⟨oB,U,ab,H,_,_⟩:=lX hy;obtain⟨oC,hC,ac,K,_,_⟩:=lX hz;have a9:.p po=lu P slots [] T.op:=a9;have H:.e (.store s (.loc 0) v)=lu P slots [T.dst] oB.op:=by rw [hA] at H;exact H
 have K:.e (.store R B v')=lu P slots [] oC.op:=K;have aa:none=IL slots T.dst:=aa;have a4:∀y,x≠.nN y:=λy e=>by rw [ex] at e;cases e
 have I:∀(L:Array Bool) (i:Nat) (o:Oper),L.size=ops.size->ops[i]?=some o->L.getD i false=false->(∀j,j<i->L.getD j false=true)->i∈Region.ready .any ops L:=λL i o hL ho ai N=>mem_ready.2 ⟨by rw [AJ (by rw [hL];exact (J4.1 ho).1)];exact ai,o,ho,λe he hb=>N _ (af i o ho e he hb)⟩;have D:∀(L:Array Bool) (i:Nat),L.size=ops.size->i∈Region.ready .any ops L->i<ops.size∧L.getD i false=false∧∀o,ops[i]?=some o->∀e∈o.after,Region.binds .any e=true->L.getD e.on false=true:=λL i hL A=>by obtain⟨h1,o,ho,J⟩:=mem_ready.1 A;have F:=(J4.1 ho).1;exact⟨F,by rw [← AJ (by omega)];exact h1,λo' aq=>by rw [ho] at aq;cases aq;exact J⟩
 have nB:∀L:Array Bool,L.size=ops.size->kT ops L->L.getD (ops.size-3) false=false->ops.size-2∉Region.ready .any ops L:=λL hL ad ai A=>by have:=b9.listed ad (D L _ hL A).2.2;rw [ai] at this;cases this
 have rC:∀(L:Array Bool),L.size=ops.size->kT ops L->∀i,i∈Region.ready .any ops L->kT ops (L.setIfInBounds i true):=λL hL ad i A=>by obtain⟨_,o,ho,J⟩:=mem_ready.1 A;exact Gu ad hL ho J
 have lA:∀j,(listed.setIfInBounds (ops.size-3) true).getD j false=decide (j<ops.size-2):=λj=>by rw [aM _ _ _ (by omega),hl];by_cases u:j=ops.size-3;rw [if_pos u,decide_eq_true (by omega)];rw [if_neg u];exact decide_eq_decide.2 (by omega)
 have lC:∀j,(listed.setIfInBounds (ops.size-1) true).getD j false=decide (j<ops.size-3∨j=ops.size-1):=λj=>by rw [aM _ _ _ (by omega),hl];by_cases u:j=ops.size-1;rw [if_pos u,decide_eq_true (.inr u)];rw [if_neg u];exact decide_eq_decide.2 (by omega)
 have X:∀j,((listed.setIfInBounds (ops.size-3) true).setIfInBounds (ops.size-2) true).getD j false=decide (j<ops.size-1):=λj=>by rw [aM _ _ _ (by simp;omega),lA];by_cases u:j=ops.size-2;rw [if_pos u,decide_eq_true (by omega)];rw [if_neg u];exact decide_eq_decide.2 (by omega)
 have Y:∀j,((listed.setIfInBounds (ops.size-3) true).setIfInBounds (ops.size-1) true).getD j false=decide (j<ops.size-2∨j=ops.size-1):=λj=>by rw [aM _ _ _ (by simp;omega),lA];by_cases u:j=ops.size-1;rw [if_pos u,decide_eq_true (.inr u)];rw [if_neg u];exact decide_eq_decide.2 (by omega)
 have Z:∀j,((listed.setIfInBounds (ops.size-1) true).setIfInBounds (ops.size-3) true).getD j false=decide (j<ops.size-2∨j=ops.size-1):=λj=>by rw [aM _ _ _ (by simp;omega),lC];by_cases u:j=ops.size-3;rw [if_pos u,decide_eq_true (.inl (by omega))];rw [if_neg u];exact decide_eq_decide.2 (by omega)
 have a7:∀(L:Array Bool) (b:Act) (w':World) (ι':K7),(∀j,j<ops.size->L.getD j false=true)->L.size=ops.size->Step P G ι m w ι' m2 w'->W9 ι' (m2.nm ι') slots env b.tmps->b.defers=a.defers->b.tmps.size=a.tmps.size->
   wpAnyIn (FR r) 0 P .any ops Q 0 L b w':=λL b w' ι' N hL b6 he hd b7=>by
  refine⟨List.eq_nil_iff_forall_not_mem.2 λi A=>?_,hQ _ ao rfl rfl ι' w' b b6 he hd b7⟩;obtain⟨h1,J,_⟩:=D L i hL A;rw [N i h1] at J;cases J
 have bb:ops.size-2<ops.size:=by omega
 have a3:∀M:Mem,TA cf (lu P slots [] T.op) [] env M=some [⟨x,M⟩]:=λM=>by rw [← a9];show ob (oh po [] env) _=_;rw [hp];rfl
 have a6:∀(ι':K7) (M:Mem) (b:Act),nt<=b.tmps.size->W9 ι' (M.nm ι') slots env b.tmps->∀w':World,RM P G ι' M w'.heap->x.lt (M.nm ι')->St P ι' (M.nm ι') slots [T.dst] [x] env (b.put T.dst (u6 ι' x)).tmps:=λι' M b hb he w' hr F=>by have s0:St P ι' (M.nm ι') slots [] [] env b.tmps:=St.start hr he;have:=s0.put T.dst (λt ht=>J3 (ay _ _ t hA ht) hb) F;rw [← aa] at this;rw [(jk b T.dst (u6 ι' x)).1];exact this
 refine⟨λf=>?_,λi A=>?_⟩;have:=I listed (ops.size-3) T hs hA (by rw [hl];simp) (λj u=>by rw [hl];simp;omega);rw [f] at this;cases this;have c:=D listed i hs A;have O:¬ i<ops.size-3:=λh=>by have:=c.2.1;rw [hl,decide_eq_true h] at this;cases this
 have l:i=ops.size-3∨i=ops.size-2∨i=ops.size-1:=by have:=c.1;omega
 rcases l with rfl | rfl | rfl
 ·
  have bc:=rC listed hs ae _ A;refine qI C (St.start hm V) hm hA (hg _ _ hA) (a3 m) a4 λar w1 z F=>?_;have sA:=a6 ar m a ap (z.env V) w1 z.rm F;refine⟨λf=>?_,λi A=>?_⟩;have:=I (listed.setIfInBounds (ops.size-3) true) (ops.size-2) oB (by simpa using hs) U (by rw [lA];simp) (λj u=>by rw [lA];simp;omega);rw [f] at this;cases this;have c:=D _ i (by simpa using hs) A;have O:¬ i<ops.size-2:=λh=>by have:=c.2.1;rw [lA,decide_eq_true h] at this;cases this
  have l:i=ops.size-2∨i=ops.size-1:=by have:=c.1;omega
  rcases l with rfl | rfl;refine qI C sA z.rm U (hg _ _ U) (v:=.undef) (m1:=m1) (by rw [← H];exact J.trans (by rw [e2])) (by simp) λak w2 q _=>?_;rw [← ab,rW];have sB:=sA.stepped q;refine⟨λf=>?_,λi A=>?_⟩;have:=I ((listed.setIfInBounds (ops.size-3) true).setIfInBounds (ops.size-2) true) (ops.size-1) oC (by simpa using hs) hC (by rw [X];simp) (λj u=>by rw [X];simp;omega);rw [f] at this;cases this;have c:=D _ i (by simpa using hs) A;have O:¬ i<ops.size-1:=λh=>by have:=c.2.1;rw [X,decide_eq_true h] at this;cases this
  obtain rfl:i=ops.size-1:=by have:=c.1;omega
  refine qI C (St.start q.rm sB.env) q.rm hC (hg _ _ hC) (v:=.undef) (m1:=m2) (by rw [← K];exact a0.trans (by rw [e3])) (by simp) λS w3 E _=>?_;rw [← ac,rW];exact a7 _ _ w3 S (λj u=>by rw [aM _ _ _ (by simp;omega),X];by_cases h:j=ops.size-1<;>simp [h];omega) (by simpa using hs) (z.trans (q.trans E)) (E.env sB.env) (jk _ _ _).2 (dB _ _ _)
  refine qI C (St.start z.rm sA.env) z.rm hC (hg _ _ hC) (v:=.undef) (m1:=mc) (by rw [← K];exact hc) (by simp) λak w2 q _=>?_;rw [← ac,rW];have sC:=sA.stepped q;refine⟨λf=>?_,λi A=>?_⟩;have:=I ((listed.setIfInBounds (ops.size-3) true).setIfInBounds (ops.size-1) true) (ops.size-2) oB (by simpa using hs) U (by rw [Y];simp;omega) (λj u=>by rw [Y];simp;omega);rw [f] at this;cases this;have c:=D _ i (by simpa using hs) A;have O:¬ (i<ops.size-2∨i=ops.size-1):=λh=>by have:=c.2.1;rw [Y,decide_eq_true h] at this;cases this
  obtain rfl:i=ops.size-2:=by have:=c.1;omega
  refine qI C sC q.rm U (hg _ _ U) (v:=.undef) (m1:=m2) (by rw [← H];exact hb) (by simp) λS w3 E _=>?_;rw [← ab,rW];exact a7 _ _ w3 S (λj u=>by rw [aM _ _ _ (by simp;omega),Y];by_cases h:j=ops.size-2<;>simp [h];omega) (by simpa using hs) (z.trans (q.trans E)) (E.env sC.env) (jk _ _ _).2 (dB _ _ _)
 exact absurd A (nB listed hs ae (by rw [hl];simp))
 ·
  refine qI C (St.start hm V) hm hC (hg _ _ hC) (v:=.undef) (m1:=mc) (by rw [← K];exact hc) (by simp) λar w1 z _=>?_;rw [← ac,rW];have an:=rC listed hs ae _ A;have a2:=z.env V;refine⟨λf=>?_,λi A=>?_⟩;have:=I (listed.setIfInBounds (ops.size-1) true) (ops.size-3) T (by simpa using hs) hA (by rw [lC];simp;omega) (λj u=>by rw [lC];simp;omega);rw [f] at this;cases this;have c:=D _ i (by simpa using hs) A;have O:¬ (i<ops.size-3∨i=ops.size-1):=λh=>by have:=c.2.1;rw [lC,decide_eq_true h] at this;cases this
  have l:i=ops.size-3∨i=ops.size-2:=by have:=c.1;omega
  rcases l with rfl | rfl;refine qI C (St.start z.rm a2) z.rm hA (hg _ _ hA) (a3 mc) a4 λak w2 q F=>?_;have sA:=a6 ak mc a ap (q.env a2) w2 q.rm F;refine⟨λf=>?_,λi A=>?_⟩;have:=I ((listed.setIfInBounds (ops.size-1) true).setIfInBounds (ops.size-3) true) (ops.size-2) oB (by simpa using hs) U (by rw [Z];simp;omega) (λj u=>by rw [Z];simp;omega);rw [f] at this;cases this;have c:=D _ i (by simpa using hs) A;have O:¬ (i<ops.size-2∨i=ops.size-1):=λh=>by have:=c.2.1;rw [Z,decide_eq_true h] at this;cases this
  obtain rfl:i=ops.size-2:=by have:=c.1;omega
  refine qI C sA q.rm U (hg _ _ U) (v:=.undef) (m1:=m2) (by rw [← H];exact hb) (by simp) λS w3 E _=>?_;rw [← ab,rW];exact a7 _ _ w3 S (λj u=>by rw [aM _ _ _ (by simp;omega),Z];by_cases h:j=ops.size-2<;>simp [h];omega) (by simpa using hs) (z.trans (q.trans E)) (E.env sA.env) (jk _ _ _).2 (dB _ _ _)
  exact absurd A (nB _ (by simpa using hs) an (by rw [lC];simp;omega))
theorem Pn {ops:Array Oper}{k i:Nat}{o:Oper}(h:(ops.extract 0 k)[i]?=some o):ops[i]?=some o:=by rw [Array.getElem?_extract] at h;split at h;rw [Z9] at h;exact h;cases h
theorem LZ {ops:Array Oper}(h:Lj (masks ops.toList) ops=true):3<=ops.size∧(∀(i:Nat) (o:Oper),ops[i]?=some o->o.guard=none)∧
  (∀(i:Nat) (o:Oper),ops[i]?=some o->∀e∈o.after,Region.binds .any e=true->e.on<i)∧(∀i,ops.size-3<=i->i<ops.size->∀j,j<ops.size-3->Ct ops i j)∧Ct ops (ops.size-2) (ops.size-3):=by
 simp only [Lj,l9,aaI,abH] at h;obtain⟨⟨⟨c,k⟩,l⟩,m⟩:=h;have c:3<=ops.size:=U9 c;have b:∀(i:Nat) (o:Oper),ops[i]?=some o->(∀e∈o.after,Region.binds .any e=true->e.on<i)∧o.guard=none:=λi o a=>by have:=k i (J4.1 a).1;rw [a] at this;simp only [l9,aaI] at this;refine⟨λe p n=>?_,Option.isNone_iff_eq_none.1 this.2⟩;have:=this.1 e (by simpa using p);rw [n] at this;simpa using this
 refine⟨c,λi o a=>(b i o a).2,λi o a=>(b i o a).1,λi s q j r=>?_,gV _ _ _ m⟩;obtain⟨⟨d,f⟩,g⟩:=l j r;have:i=ops.size-3∨i=ops.size-2∨i=ops.size-1:=by omega
 rcases this with rfl | rfl | rfl;exact gV _ _ _ d;exact gV _ _ _ f;exact gV _ _ _ g
def ai4 (Q:Exit->Act->World->Prop)(N:Act->World->Prop):Exit->Act->World->Prop
 | .normal,b,w=>N b w
 | x,b,w=>Q x b w
theorem pE {cf:F8}(Z:P.follows .mixedOrders=true)(a1:nR P G cf)(slots:List Nat)(nt:Nat)(r:Option Nat):lY P G slots nt cf r:=by
 intro id ops ac au H a8 Q ir env m k ι w a outs hm ae a6 X aw hv hQ;simp only [U2] at H;split at H;unfold FE at H;split at H;rename_i n l hd;split at H;rename_i ap;obtain⟨h3,hg,O,ad,aq⟩:=LZ ap;unfold ED at H;split at H;rename_i po d1 s v s' a' v' hx hy hz;split at H;rename_i a5;simp only [l9] at a5;cases H;have hv:bnd (bnd (vI l cf m.nx [] env (reserve n m) [reserve n m]) (iQ k)) (λo=>dG.rec (bnd (cZ [⟨.p po,none,none⟩,⟨.e (.store s (.loc 0) v),none,none⟩,⟨.e (.storeAp s' a' v' (.loc 1)),none,none⟩] cf [] o.env o.m) (iQ o.marks))
  (λ_=>some [o]) (some [o]) o.x)=some outs:=hv
 obtain⟨os,I,hk⟩:=aV hv;obtain⟨es,a3,ah⟩:=aV I;refine wpIn_region_any Z ?_;have T:(ops.extract 0 (ops.size-3)).size=ops.size-3:=by rw [Array.size_extract];omega
 have h1:=DI (r:=r) a1 slots nt _ n l hd (λi o t ho ht=>jH a8 i o t (Pn ho) ht)
  (ai4 Q λb Y=>∃M∈es,∃D,M.px=none∧M.mks=[]∧Step P G ι m w D M.m Y∧W9 D (M.m.nm D) slots M.env b.tmps∧b.defers=a.defers∧b.tmps.size=a.tmps.size) env m ι w a es hm ae a6 a3
  (λM W J A D Y b B u q N=>⟨M,W,D,J,A,B,u,q,N⟩) ?_
 rw [T] at h1;have:=Ji (ops:=ops) (k:=ops.size-3) (Q:=Q) (Q1:=ai4 Q _) (by omega) hg O ad (λc a w h=>h) (λ⟨a,w,h⟩=>⟨a,w,h⟩) ?_ (ops.size-3) (Array.replicate ops.size false) (Array.replicate (ops.size-3) false) a _ (by simp) (by simp)
  (λj=>by rw [J7,J7,abE,abE];split<;>split<;>rfl)
  (λi o h=>by rw [J7,abE] at h;split at h<;>cases h)
  (by unfold uJ;rw [ahx.2 (λi _=>by rw [J7,abE];split<;>rfl),ahJ]) h1
 rw [show ops.size-3+(ops.size-(ops.size-3))=ops.size from by omega] at this;exact this;rintro b Y ⟨M,W,D,J,A,B,u,q,N⟩ listed hls hcl hl;rw [show ops.size-(ops.size-3)=3 from by omega];obtain⟨os1,E,K⟩:=ah M W;obtain⟨d,C,g,f⟩:=M;obtain rfl:g=none:=J;obtain rfl:f=[]:=A;have E:oL .normal d C k=some os1:=E;cases E;obtain⟨os2,F,L⟩:=hk _ (K _ (aA.2 rfl));have F:bnd (cZ [⟨.p po,none,none⟩,⟨.e (.store s (.loc 0) v),none,none⟩,⟨.e (.storeAp s' a' v' (.loc 1)),none,none⟩] cf [] d C) (iQ k)=some os2:=F;obtain⟨av,ag,ao⟩:=aV F;refine RV a1 h3 hx hy hz a5.1 a5.2 (jH a8) hg O aq B.rm u (by rw [N];exact a6) ag ?_ hls hcl hl;intro e2 an aj ai al ar am a0 af a2 ab;obtain⟨os3,R,a7⟩:=ao e2 an;obtain⟨V,ak,aa,a9⟩:=e2;obtain rfl:aa=none:=aj;obtain rfl:a9=[]:=ai;have R:oL .normal V ak k=some os3:=R;cases R;exact hQ _ (L _ (a7 _ (aA.2 rfl))) al ar am (B.trans a0) af (ab.trans N) (by rw [a2,q];exact X.step (B.trans a0)) (bW rfl);intro M W y J A D Y b B U u q N;obtain⟨os1,E,K⟩:=ah M W;obtain⟨d,C,g,f⟩:=M;obtain rfl:g=some y:=J;obtain rfl:f=[]:=A;have E:some [(⟨.ret,d,C,k,some y⟩:Out)]=some os1:=E;cases E;obtain⟨os2,F,L⟩:=hk _ (K _ (aA.2 rfl));have F:some [(⟨.ret,d,C,k,some y⟩:Out)]=some os2:=F;cases F;exact hQ _ (L _ (aA.2 rfl)) D Y b B u N (by rw [q];exact X.step B) (λz hz=>by cases hz;exact⟨rfl,U⟩);cases H;cases H;cases H;cases H;have a4:∃n l,ac=.dreg n l:=by unfold zV at H;split at H;cases H;split at H;cases H;exact⟨_,_,rfl⟩;cases H
 obtain⟨n,l,rfl⟩:=a4;have hv:bnd (vI l cf m.nx [] env (reserve n m) [reserve n m]) (iQ k)=some outs:=hv;obtain⟨es,a3,hk⟩:=aV hv;refine wpIn_region_any Z (DI a1 slots nt r ops n l H (jH a8) Q env m ι w a es hm ae a6 a3 ?_ ?_);intro e W J A D Y a' B u q T;obtain⟨os,I,S⟩:=hk e W;obtain⟨d,C,g,f⟩:=e;obtain rfl:g=none:=J;obtain rfl:f=[]:=A;have I:oL .normal d C k=some os:=I;cases I;exact hQ _ (S _ (aA.2 rfl)) D Y a' B u T (by rw [q];exact X.step B) (bW rfl);intro e W y J A D Y a' B U u q T;obtain⟨os,I,S⟩:=hk e W;obtain⟨d,C,g,f⟩:=e;obtain rfl:g=some y:=J;obtain rfl:f=[]:=A;have I:some [(⟨.ret,d,C,k,some y⟩:Out)]=some os:=I;cases I;exact hQ _ (S _ (aA.2 rfl)) D Y a' B u T (by rw [q];exact X.step B) (λz hz=>by cases hz;exact⟨rfl,U⟩)
end
section
variable {P:Program}{G:Mem}{ι:K7}{n:Nm}{m:Mem}{w:World}{slots:List Nat}
def rX (ι:K7):Option o7->FrameMode->Prop
 | some x,u=>u=.panicking [{v:=u6 ι x,recovered:=false}]
 | none,u=>u=.returning∨∃v,u=.panicking [{v,recovered:=true}]
theorem rX.settle {md:Option o7}{u:FrameMode}(h:rX ι md u):Go.settle u=zi ι md:=by
 cases md with
 | some x=>obtain rfl:u=_:=h;rfl
 | none=>rcases h with rfl | ⟨v,rfl⟩<;>rfl
theorem rX.of {a:Option o7}:rX ι a (zi ι a):=by
 cases a with
 | some x=>rfl
 | none=>exact .inl rfl
theorem rX.step {ι':K7}{m':Mem}{w':World}{a:Option o7}{u:FrameMode}(h:rX ι a u)(b:Cr ι m a)(c:Step P G ι m w ι' m' w'):rX ι' a u:=by
 cases a with
 | some x=>have h:u=_:=h;have:=c.u6 (b x rfl);show u=.panicking [{v:=u6 ι' x,recovered:=false}];rw [this];exact h
 | none=>exact h
theorem VA (i:Inst)(l:List Inst)(cf:F8)(ls:List o7)(env:T o7)(m:Mem)(md:Option o7):
  vJ (i::l) cf ls env m md=match isRec i with
   | true=>match md with
    | some x=>vJ l cf (x::ls) (dS i.dst x env) m none
    | none=>vJ l cf (.nilIface::ls) (dS i.dst .nilIface env) m none
   | false=>match i.op with
    | .p o=>ob (II i.guard (oh o) ls env) λv=>vJ l cf (v::ls) (dS i.dst v env) m md
    | .r o=>ob (yM i.guard (tC o) ls env m) λv=>vJ l cf (v::ls) (dS i.dst v env) m md
    | _=>none:=rfl
theorem xI {ops:Array Oper}{o:Oper}{i:Nat}{c:List Nat}(j:ops[i]?=some o){b:List (Option Nat)}{ls:List o7}{env:T o7}{a:Act}{cs:List Frame}{Q:Exit->Act->List Frame->World->Prop}
  (s:St P ι n slots b ls env a.tmps) {g:Option (Q8×Bool)} (f:nV ops b o.guard g) {v u:o7} (e:u=bi (uV g ls env) v .undef)
  (d:uV g ls env=true->(execOp a.eval o).run P w=.ok (.value (u6 ι v)) w) (h:wpOpsSIn Fence.wide 0 P ops Q c (a.put o.dst (u6 ι u)) cs w):
  wpOpsSIn Fence.wide 0 P ops Q (i::c) a cs w:=by
 simp only [wpOpsSIn,j];refine⟨λ_ _=>trivial,?_⟩;rw [oD s f];cases hb:uV g ls env with
 | true=>rw [hb] at e;obtain rfl:u=v:=e;simp only [if_true];rw [d hb];exact h
 | false=>rw [hb] at e;obtain rfl:u=.undef:=e;rw [lW] at h;simp only [Xd,if_false];exact h
theorem ab9 (g:Option (Q8×Bool))(f:PF)(ls:List o7)(env:T o7):II g f ls env=bi (uV g ls env) (f ls env) (some .undef):=by cases g<;>rfl
theorem abb (g:Option (Q8×Bool))(f:RF)(ls:List o7)(env:T o7)(m:Mem):yM g f ls env m=bi (uV g ls env) (f ls env m) (some .undef):=by cases g<;>rfl
theorem aeJ {a:List (Option Nat)}{c:Op}{d:WS}(h:.p d=lu P slots a c):iA P slots a c=some (.p d):=by unfold lu at h;split at h;rename_i e b;rw [b,← h];cases h
theorem aeK {a:List (Option Nat)}{c:Op}{d:QV}(h:.r d=lu P slots a c):iA P slots a c=some (.r d):=by unfold lu at h;split at h;rename_i e b;rw [b,← h];cases h
theorem Yp {a:List (Option Nat)}{c:Op}(h:.e .recover=lu P slots a c):iA P slots a c=some (.e .recover):=by unfold lu at h;split at h;rename_i d b;rw [b,← h];cases h
theorem Yq {i:Inst}(h:isRec i=true):i.op=.e .recover∧i.guard=none:=by unfold isRec at h;split at h;exact⟨by assumption,by assumption⟩;cases h
theorem RX {cf:F8}{ops:Array Oper}{U:Nat}(O:∀(i:Nat)(o:Oper)(t:Tmp),ops[i]?=some o->o.dst=some t->t<U){Q:Exit->Act->List Frame->World->Prop}{c₀:Frame}{cs:List Frame}
  (hm:RM P G ι m w.heap):
  ∀(l:List Nat) (done:List (Option Nat)) (insts:List Inst),kI P slots ops done l=some insts->∀(ls:List o7) (env:T o7) (md:Option o7) (u:FrameMode) (a:Act) (outs:List (EM×Option o7)),
   U<=a.tmps.size->St P ι (m.nm ι) slots done ls env a.tmps->Cr ι m md->rX ι md u->vJ insts cf ls env m md=some outs->
   (∀r∈outs,∀u' a',r.1.m=m->W9 ι (m.nm ι) slots r.1.env a'.tmps->a'.defers=a.defers->a'.tmps.size=a.tmps.size->Cr ι m r.2->rX ι r.2 u'->Q .normal a' ({c₀ with mode:=u'}::cs) w)->
   wpOpsSIn Fence.wide 0 P ops Q l a ({c₀ with mode:=u}::cs) w:=by
 intro l;induction l with
 | nil=>
  intro done insts M ls env md u a outs A s n f g N;simp only [kI,Hl] at M;subst M;have g:some [((⟨env,m,none,[]⟩:EM),md)]=some outs:=by rw [← g,vJ]
  cases g;exact N _ (aA.2 rfl) u a rfl s.env rfl rfl n f
 | cons i rest ih=>
  intro done insts M ls env md u a outs A s n f g N;obtain⟨x,d,l,hx,hl,rfl⟩:=qH M;obtain⟨o,C,rfl,L,h3,D⟩:=lX hx;rw [VA] at g;have j:∀(v:o7) (z:Option o7) (u':FrameMode),v.lt (m.nm ι)->Cr ι m z->rX ι z u'->vJ l cf (v::ls) (dS x.dst v env) m z=some outs->
    wpOpsSIn Fence.wide 0 P ops Q rest (a.put o.dst (u6 ι v)) ({c₀ with mode:=u'}::cs) w:=by
   intro v z u' R H B g;rw [h3] at g;have s':=s.put o.dst (λt ht=>J3 (O i o t C ht) A) R;refine ih _ _ hl _ _ z u' (a.put o.dst (u6 ι v)) outs (by rw [dB];exact A) (by rw [(jk a o.dst (u6 ι v)).1];exact s') H B g ?_;intro r I S a' V W X Y Z e6;exact N r I S a' V W (by rw [X,(jk a o.dst _).2]) (Y.trans (dB a o.dst _)) Z e6
  cases I:isRec x with
  | true=>
   rw [I] at g;obtain⟨E,F⟩:=Yq I;rw [E] at L;rw [F] at D;have q:=Yp L;have hw:Region.wanted o (yielded ops a.tmps)=true:=by rw [oD s D];rfl
   have K:(execOp a.eval o).run P w=.ok .recover w:=by
    cases ho:o.op with
    | call c=>
     rw [ho] at q;cases Ad q with
     | recover hcal=>simp [execOp,ho,resolve,hcal,invoke,builtin]
    | _=>rw [ho] at q;cases Ad q
   simp only [wpOpsSIn,C];refine⟨λ_ _=>trivial,?_⟩;rw [hw,if_pos rfl,K];cases md with
   | some y=>obtain rfl:u=.panicking [{v:=u6 ι y,recovered:=false}]:=f;exact j y none (.panicking [{v:=u6 ι y,recovered:=true}]) (n y rfl) (λ_ h=>by cases h) (.inr ⟨_,rfl⟩) g
   | none=>
    have J:recoverD ({c₀ with mode:=u}::cs)=none:=by rcases f with rfl | ⟨v,rfl⟩<;>rfl
    show (match recoverD ({c₀ with mode:=u}::cs) with
     | some (v,cs')=>wpOpsSIn Fence.wide 0 P ops Q rest (a.put o.dst v) cs' w
     | none=>wpOpsSIn Fence.wide 0 P ops Q rest (a.put o.dst .nilIface) ({c₀ with mode:=u}::cs) w)
    rw [J];have:=j .nilIface none u trivial n f g;simp only [u6] at this;exact this
  | false=>
   rw [I] at g;obtain⟨op,dst,k⟩:=x;cases op with
   | p po=>
    have g:ob (II k (oh po) ls env) (λv=>vJ l cf (v::ls) (dS dst v env) m md)=some outs:=g;obtain⟨v,b,g⟩:=D5 g;rw [ab9] at b;have q:=aeJ L;cases hb:uV k ls env with
    | true=>rw [hb] at b;have b:oh po ls env=some v:=b;obtain⟨E,F⟩:=tO s q b;exact xI C s D (v:=v) (u:=v) (by rw [hb];rfl) (λ_=>F o rfl w) (j v md u E n f g)
    | false=>rw [hb] at b;obtain rfl:o7.undef=v:=Y5 b;exact xI C s D (v:=.undef) (u:=.undef) (by rw [hb];rfl) (λh=>by rw [hb] at h;cases h) (j .undef md u trivial n f g)
   | r ro=>
    have g:ob (yM k (tC ro) ls env m) (λv=>vJ l cf (v::ls) (dS dst v env) m md)=some outs:=g;obtain⟨v,b,g⟩:=D5 g;rw [abb] at b;have q:=aeK L;cases hb:uV k ls env with
    | true=>rw [hb] at b;have b:tC ro ls env m=some v:=b;obtain⟨E,F⟩:=tQ s hm (vW q) b;exact xI C s D (v:=v) (u:=v) (by rw [hb];rfl) (λ_=>F o rfl) (j v md u E n f g)
    | false=>rw [hb] at b;obtain rfl:o7.undef=v:=Y5 b;exact xI C s D (v:=.undef) (u:=.undef) (by rw [hb];rfl) (λh=>by rw [hb] at h;cases h) (j .undef md u trivial n f g)
   | a _=>cases g
   | e _=>cases g
def Yr (P:Program)(G:Mem)(slots:List Nat)(nt:Nat)(cf:F8)(fuel:Nat)(c:Code)(ac:V8):Prop:=
 ∀(Q:Exit->Act->List Frame->World->Prop) (env:T o7) (m:Mem) (md:Option o7) (ι:K7) (w:World) (a:Act) (c₀:Frame) (cs:List Frame) (u:FrameMode) (outs:List Oe),
  RM P G ι m w.heap->W9 ι (m.nm ι) slots env a.tmps->nt<=a.tmps.size->a.defers=[]->Cr ι m md->rX ι md u->yx ac cf fuel env m md=some outs->
  (∀r∈outs,∀ι' w' a' u',Step P G ι m w ι' r.o.m w'->W9 ι' (r.o.m.nm ι') slots r.o.env a'.tmps->a'.tmps.size=a.tmps.size->iI ι' r.o.m r.o.marks a'.defers->Vp ι' r.o->Cr ι' r.o.m r.md->rX ι' r.md u'->Q (TG ι' r.o) a' ({c₀ with mode:=u'}::cs) w')->
  c.wpSIn Fence.wide 0 P Q a ({c₀ with mode:=u}::cs) w
theorem eP {y:Nat}{cf:F8}(l:nR P G cf)(b:Nat)(d:lY P G slots y cf none){c:Code}{ac:V8}(F:U2 P slots c=some ac)(K:tmpsIn y c=true)
  (p:∀env m md,yx ac cf b env m md=bnd (xB ac cf b none env m []) λo=>some [⟨o,md⟩]):Yr P G slots y cf b c ac:=by
 intro Q env m md ι w a A N u C I n r f i j B E;rw [p] at B;obtain⟨L,s,H⟩:=aV B;refine wpSIn_of_wpIn rfl (uh l b d c ac F K _ none env m [] ι w a L I n r ⟨by rw [f];rfl,λ_ h=>by cases h⟩ ⟨rfl,λ_ h=>by cases h⟩ s ?_);intro o J z M D e g x q t;obtain⟨O,v,k⟩:=H o J;cases v;exact E _ (k _ (aA.2 rfl)) z M D u e g x q t (i.step e).1 (j.step i e)
theorem VB {nt:Nat}{cf:F8}(C:nR P G cf)(j:Nat)(i:lY P G slots nt cf none):∀(c:Code) (ac:V8),U2 P slots c=some ac->tmpsIn nt c=true->Yr P G slots nt cf j c ac:=by
 intro c;induction c with
 | region id ops d=>
  intro ac f A;cases d with
  | true=>refine eP C j i f A ?_;rcases RI f with⟨n,l,rfl⟩ | ⟨n,l,t,rfl⟩;exact λo m K=>rfl;exact λo m K=>rfl
  | false=>
   have a3:=f;simp only [U2] at f;split at f;rename_i J hi;cases f;cases hr:FC J with
   | false=>refine eP C j i a3 A ?_;intro o m K;rw [yx,hr]
   | true=>intro Q o m K ι w a k O u outs L D E p I v H M;rw [yx,hr] at H;have H:bnd (vJ J cf [] o m K) (λr=>some [⟨⟨.normal,r.1.env,r.1.m,[],none⟩,r.2⟩])=some outs:=H;obtain⟨os,U,hk⟩:=aV H;refine wpSIn_region (RX (jH A) L _ [] J hi [] o K u a os E (St.start L D) I v U ?_);intro r a4 u' V e1 e2 e3 e4 e5 e6;obtain⟨rs,a5,F⟩:=hk r a4;cases a5;obtain⟨⟨a1,Z,a8,a7⟩,a6⟩:=r;obtain rfl:Z=m:=e1;exact M _ (F _ (aA.2 rfl)) ι w V u' (Step.refl L) e2 e4 ⟨by rw [e3,p];rfl,λ_ h=>by cases h⟩ (bW rfl) e5 e6
   cases f
 | seq x y ihx ihy=>
  intro ac f A Q o m K ι w a k O u outs L D E p I v H M;simp only [tmpsIn,l9] at A;simp only [U2] at f;split at f;rename_i cx cy hx hy;cases f;rw [yx] at H;obtain⟨os,U,hk⟩:=aV H;refine wpSIn_seq (ihx cx hx A.1 _ o m K ι w a k O u os L D E p I v U ?_);rintro⟨⟨x₀,env₀,m₀,k₀,pv₀⟩,md₀⟩ ho ι' w' V u' hst hen' hsz hmk' hpv hmd' hrel';obtain⟨os',B,F⟩:=hk _ ho;cases x₀ with
  | normal=>
   obtain rfl:pv₀=none:=mG hpv (by intro e;cases e);cases k₀ with
   | cons=>cases B
   | nil=>have B:yx cy cf j env₀ m₀ md₀=some os':=B;refine ihy cy hy A.2 Q env₀ m₀ md₀ ι' w' V k O u' os' hst.rm hen' (by rw [hsz];exact E) hmk'.1 hmd' hrel' B ?_;intro r hr a0 aa a2 a9 X R Y T W S N;exact M r (F _ hr) a0 aa a2 a9 (hst.trans X) R (Y.trans hsz) T W S N
  | exit id=>obtain rfl:pv₀=none:=mG hpv (by intro e;cases e);cases B;exact M _ (F _ (aA.2 rfl)) ι' w' V u' hst hen' hsz hmk' hpv hmd' hrel'
  | ret=>cases B;have:=M _ (F _ (aA.2 rfl)) ι' w' V u' hst hen' hsz hmk' hpv hmd' hrel';cases pv₀<;>exact this
  cases f
 | cond c x y ihx ihy=>
  intro ac f A Q o m K ι w a k O u outs L D E p I v H M;simp only [tmpsIn,l9] at A;simp only [U2] at f;split at f;rename_i z cx cy hz hx hy;cases f;rw [yx] at H;obtain⟨t,h1,H⟩:=rQ H;obtain⟨e1,_⟩:=A9 (St.start L D) hz;refine wpSIn_cond (t:=t) (by rw [e1,h1];rfl) ?_;cases t with
  | true=>exact ihx cx hx A.1 Q o m K ι w a k O u outs L D E p I v H M
  | false=>exact ihy cy hy A.2 Q o m K ι w a k O u outs L D E p I v H M
  cases f
 | skip=>intro ac f A;simp only [U2,Hl] at f;subst f;exact eP C j i rfl A λ_ _ _=>rfl
 | exit id=>intro ac f A;simp only [U2,Hl] at f;subst f;exact eP C j i rfl A λ_ _ _=>rfl
 | ret=>intro ac f A;simp only [U2,Hl] at f;subst f;exact eP C j i rfl A λ_ _ _=>rfl
 | block id x _=>
  intro ac f A;have q:∃y,ac=.block id y:=by simp only [U2] at f;split at f;cases f;exact⟨_,rfl⟩;cases f
  obtain⟨y,rfl⟩:=q;exact eP C j i f A λ_ _ _=>rfl
 | loop x _=>
  intro ac f A;have q:∃y,ac=.loop y:=by simp only [U2] at f;split at f;cases f;exact⟨_,rfl⟩;cases f
  obtain⟨y,rfl⟩:=q;exact eP C j i f A λ_ _ _=>rfl
 | rangeFunc g ps x y _ _=>
  intro ac f A;have q:∃a b c d,ac=.rangeFunc a b c d:=by simp only [U2] at f;split at f;cases f;exact⟨_,_,_,_,rfl⟩;cases f
  obtain⟨_,_,_,_,rfl⟩:=q;exact eP C j i f A λ_ _ _=>rfl
 | scope x ihx=>intro ac f;simp only [U2] at f;cases f
 | label l=>intro ac f;simp only [U2] at f;cases f
 | goto l=>intro ac f;simp only [U2] at f;cases f
 | refuse s=>intro ac f _ Q o m K ι w a k O u outs L D E p I v H M;simp only [U2,Hl] at f;subst f;have H:(none:Option (List Oe))=some outs:=H;cases H
theorem JY {K:Known}(k:∀f sf,K.fns f=some sf->ql P f sf){cf:F8}(y:nR P G cf)(b:Nat)(g:∀slots nt r,lY P G slots nt cf r):aaZ P G (qz K cf b):=by
 intro f C s m q h;obtain⟨sf,T,h⟩:=D5 h;obtain⟨A,slots,x,c,ac,rs,L,M,N,O,Q,R,S,F,H,I,e4,J⟩:=k f sf T;refine⟨A,λ{ι w} hm hargs hmd=>?_⟩;obtain⟨D,U,h⟩:=D5 h;obtain rfl:=J D U;obtain⟨u,E,h⟩:=D5 h;obtain⟨Z,B,W⟩:=aV h;rw [F,H] at E;obtain⟨q1,q2,q3⟩:=JU R S hargs E;refine callsDIn_of_wpSIn L M trivial λc₀ t Y=>?_;have e:({c₀ with mode:=zi ι s}:Frame)=c₀:=by rw [← Y]
 rw [← e];refine VB y b (g slots x.ntmps none) c D N Q _ u m s ι w _ c₀ t (zi ι s) Z hm q2 q3 rfl hmd rX.of B ?_;rintro⟨⟨x₀,env₀,m₀,k₀,pv₀⟩,md₀⟩ ho ι' w' a' u' hst hen' hsz hmk' hpv hmd' hrel';obtain⟨vs,a,o⟩:=W _ ho;have i:k₀=[]∧pv₀=none∧(∀id,x₀≠.exit id)∧∃l,results sf.results env₀ m₀=some l∧vs=[(m₀,md₀)]:=by
  have a:Rc sf.results ⟨⟨x₀,env₀,m₀,k₀,pv₀⟩,md₀⟩=some vs:=a;have p:ob (results sf.results env₀ m₀) (λ_=>some [(m₀,md₀)])=some vs->∃l,results sf.results env₀ m₀=some l∧vs=[(m₀,md₀)]:=by intro h;obtain⟨l,X,h⟩:=D5 h;cases h;exact⟨l,X,rfl⟩
  cases x₀ with
  | exit id=>cases k₀<;>cases pv₀<;>cases a
  | normal=>
   cases k₀ with
   | cons=>cases pv₀<;>cases a
   | nil=>
    cases pv₀ with
    | some=>cases a
    | none=>exact⟨rfl,rfl,(λid h=>by cases h),p a⟩
  | ret=>
   cases k₀ with
   | cons=>cases pv₀<;>cases a
   | nil=>
    cases pv₀ with
    | some=>cases a
    | none=>exact⟨rfl,rfl,(λid h=>by cases h),p a⟩
 obtain⟨rfl,rfl,z,l,d,rfl⟩:=i;rw [I] at d;obtain⟨r1,r2⟩:=yJ hst.rm hen' _ rs O l d;have V:a'.defers=[]:=hmk'.1;have n:(Go.results x a'.tmps).run P w'=.ok (u6 ι' (result l)) w':=by rw [JR,Gq,aj5];simp only [J8,map_eq_pure_bind,bind_assoc,pure_bind];rw [r2];simp
 have j:a'.defers=[]∧∃u'',(({c₀ with mode:=u'}:Frame)::t)=({({c₀ with mode:=zi ι s}:Frame) with mode:=u''}:Frame)::t∧∃v,(Go.results x a'.tmps).run P w'=.ok v w'∧
   ∃v',Ending.returned v=.returned v'∧∃r∈q,∃ι',Step P G ι m w ι' r.1 w'∧Cr ι' r.1 r.2∧settle u''=zi ι' r.2:=
  ⟨V,u',rfl,_,n,_,rfl,(m₀,md₀),o _ (aA.2 rfl),ι',hst,hmd',hrel'.settle⟩
 cases x₀ with
 | normal=>exact j
 | ret=>exact j
 | exit id=>exact absurd rfl (z id)
end
section
variable {P:Program}{ι ι':K7}{n n':Nm}{r:Nat->Option Nat}
def DJ (ι:K7)(n:Nm)(ι':K7)(n':Nm)(r:Nat->Option Nat):Prop:=∀i j,r i=some j->n i->n' j∧ι' j=ι i∧n'.cap j=n.cap i
mutual
theorem pF (hr:DJ ι n ι' n' r):∀(v v':o7),fK r v=some v'->v.lt n->u6 ι' v'=u6 ι v∧v'.lt n'
 | .undef,v',h,_ | .bool _,v',h,_ | .int _ _,v',h,_ | .str _,v',h,_ | .nilPtr,v',h,_ | .nilSlice,v',h,_ | .nilMap,v',h,_ | .nilFunc,v',h,_ | .nilIface,v',h,_=>by simp only [fK,Hl] at h;subst h;simp [u6,o7.lt]
 | .ptr i o,v',h,hv=>by simp only [fK] at h;obtain⟨j,h1,h2⟩:=D5 h;cases h2;obtain⟨g1,g2,g3⟩:=hr i j h1 hv;exact⟨by simp [u6,K7.at,g2],g1⟩
 | .slice i o l c,v',h,hv=>by simp only [fK] at h;obtain⟨j,h1,h2⟩:=D5 h;cases h2;obtain⟨g1,g2,g3⟩:=hr i j h1 hv;exact⟨by simp [u6,K7.at,g2],g1⟩
 | .sliceU i o l c,v',h,hv=>by simp only [fK] at h;obtain⟨j,h1,h2⟩:=D5 h;cases h2;obtain⟨g1,g2,g3⟩:=hr i j h1 hv.1;exact⟨by simp [u6,K7.at,g2],g1,hv.2.1,by rw [g3];exact hv.2.2⟩
 | .map i,v',h,hv=>by simp only [fK] at h;obtain⟨j,h1,h2⟩:=D5 h;cases h2;obtain⟨g1,g2,g3⟩:=hr i j h1 hv;exact⟨by simp [u6,g2],g1⟩
 | .func fn a b,v',h,hv=>by
  obtain⟨h1,h2,h3⟩:=hv;have key:∀v',(ob (lq r a) λx=>ob (lq r b) λy=>some (o7.func fn x y))=some v'->(∀l,fn≠.yield l)->u6 ι' v'=u6 ι (.func fn a b)∧v'.lt n':=by
   intro v' h hn;obtain⟨x,h4,h⟩:=D5 h;obtain⟨y,h5,h⟩:=D5 h;cases h;obtain⟨g1,g2⟩:=jW hr a x h4 h2;obtain⟨g3,g4⟩:=jW hr b y h5 h3;have e:jR ι' fn=jR ι fn:=by cases fn<;>first | rfl | exact absurd rfl (hn _)
   refine⟨by simp [u6,g1,g3,e],?_,g2,g4⟩;cases fn<;>first | trivial | exact absurd rfl (hn _)
  cases fn with
  | yield l=>simp only [fK] at h;cases h
  | func f=>exact key v' (by simpa only [fK] using h) (by simp)
  | method f=>exact key v' (by simpa only [fK] using h) (by simp)
  | methodOf f g=>exact key v' (by simpa only [fK] using h) (by simp)
  | via f g x y=>exact key v' (by simpa only [fK] using h) (by simp)
 | .iface t v,v',h,hv=>by simp only [fK] at h;obtain⟨x,h1,h2⟩:=D5 h;cases h2;obtain⟨g1,g2⟩:=pF hr v x h1 hv;exact⟨by simp [u6,g1],g2⟩
 | .agg l,v',h,hv=>by simp only [fK] at h;obtain⟨x,h1,h2⟩:=D5 h;cases h2;obtain⟨g1,g2⟩:=jW hr l x h1 hv;exact⟨by simp [u6,g1],g2⟩
 | .tuple l,v',h,hv=>by simp only [fK] at h;obtain⟨x,h1,h2⟩:=D5 h;cases h2;obtain⟨g1,g2⟩:=jW hr l x h1 hv;exact⟨by simp [u6,g1],g2⟩
 | .nN v,v',h,hv=>by simp only [o7.lt] at hv
theorem jW (hr:DJ ι n ι' n' r):∀(l l':List o7),lq r l=some l'->bB n l->z8 ι' l'=z8 ι l∧bB n' l'
 | [],l',h,_=>by simp only [lq,Hl] at h;subst h;simp [z8,bB]
 | v::l,l',h,hv=>by simp only [lq] at h;obtain⟨x,h1,h⟩:=D5 h;obtain⟨y,h2,h⟩:=D5 h;cases h;obtain⟨g1,g2⟩:=pF hr v x h1 hv.1;obtain⟨g3,g4⟩:=jW hr l y h2 hv.2;exact⟨by simp [z8,g1,g3],g2,g4⟩
end
theorem DK (hr:DJ ι n ι' n' r):∀(l l':List (List o7)),oN r l=some l'->(∀x∈l,bB n x)->l'.length=l.length∧∀(i:Nat) x,l[i]?=some x->∃x',l'[i]?=some x'∧z8 ι' x'=z8 ι x∧bB n' x'
 | [],l',h,_=>by simp only [oN,Hl] at h;subst h;simp
 | v::l,l',h,hv=>by
  simp only [oN] at h;obtain⟨x,h1,h⟩:=D5 h;obtain⟨y,h2,h⟩:=D5 h;cases h;obtain⟨g1,g2⟩:=jW hr v x h1 (hv v (by simp));obtain⟨g3,g4⟩:=DK hr l y h2 (λx hx=>hv x (by simp [hx]));refine⟨by simp [g3],λi u hu=>?_⟩;cases i with
  | zero=>simp at hu;subst hu;exact⟨x,rfl,g1,g2⟩
  | succ i=>obtain⟨x',h3,h4⟩:=g4 i u (by simpa using hu);exact⟨x',by simpa using h3,h4⟩
theorem Gv (hr:DJ ι n ι' n' r):∀(l l':List (o7×o7)),Ei r l=some l'->(∀e∈l,e.1.lt n∧e.2.lt n)->l'.length=l.length∧(∀k,J5 ι' l' k=J5 ι l k)∧∀e∈l',e.1.lt n'∧e.2.lt n'
 | [],l',h,_=>by simp only [Ei,Hl] at h;subst h;simp [J5]
 | e::l,l',h,hv=>by simp only [Ei] at h;obtain⟨x,h1,h⟩:=D5 h;obtain⟨y,h2,h⟩:=D5 h;obtain⟨z,h3,h⟩:=D5 h;cases h;obtain⟨g1,g2⟩:=pF hr e.1 x h1 (hv e (by simp)).1;obtain⟨g3,g4⟩:=pF hr e.2 y h2 (hv e (by simp)).2;obtain⟨g5,g6,g7⟩:=Gv hr l z h3 (λx hx=>hv x (by simp [hx]));refine⟨by simp [g5],λk=>by simp [J5,g1,g3,g6],λu hu=>?_⟩;rcases Y4.1 hu with rfl | hu;exact⟨g2,g4⟩;exact g7 u hu
theorem VD {b:P9}{nb:NB}(h:yP b=some nb):dO b=false:=by cases b<;>first | rfl | (simp [yP] at h)
theorem zo (nb:NB):dO (fC nb)=false:=by cases nb<;>rfl
theorem Gw {r:Nat->Option Nat}{b:P9}{nb a:NB}(h:yP b=some nb)(h':qj r nb=some a):U8 (fC a)=U8 b:=by
 cases b<;>simp only [yP,Hl,reduceCtorEq] at h
 subst h;simp only [qj,Hl] at h';subst h';rfl;obtain⟨l,_,h⟩:=D5 h;cases h;simp only [qj] at h';obtain⟨x,_,h'⟩:=D5 h';cases h';rfl;subst h;simp only [qj] at h';obtain⟨x,_,h'⟩:=D5 h';cases h';rfl;subst h;simp only [qj] at h';obtain⟨x,_,h'⟩:=D5 h';cases h';rfl
theorem Ma (D:DJ ι n ι' n' r){h:Array Obj}{l:Loc}{b:P9}{nb y:NB}(hb:dN P ι n h l b)(p:yP b=some nb)(a:qj r nb=some y):dN P ι' n' h l (fC y):=by
 cases b<;>simp only [yP,Hl,reduceCtorEq] at p
 subst p;simp only [qj,Hl] at a;subst a;exact trivial;rename_i rs k A;obtain⟨z,S,p⟩:=D5 p;cases p;simp only [qj] at a;obtain⟨d,v,a⟩:=D5 a;cases a;obtain⟨c,e,O,t,u,⟨L,N,X,Y,_⟩,H⟩:=hb;obtain⟨J,W⟩:=T.Rk _ _ _ _ S;have g:∀i x,z[i]?=some x->i<k∧A.get i=some x:=λi x s=>by
  have o:i<k:=by have:=(y8.1 s).1;omega
  have:=W i o;rw [Z9,s] at this;exact⟨o,this⟩
 have C:∀x∈z,bB n x:=λx s=>by obtain⟨i,o⟩:=aax s;obtain⟨f,m⟩:=g i x o;obtain⟨G,B,E,F,q4⟩:=H i f;rw [m] at B;cases B;exact F
 obtain⟨f,m⟩:=DK D z d v C;refine⟨c,e,O,t,u,⟨by rw [I9,f,J];exact L,d.length,(by rw [I9];exact aP _),T.fO d,by rw [I9];exact vQ (T.fO d)⟩,λi o=>?_⟩;rw [I9,f,J] at o;have s:z[i]?=some (z[i]'(by omega)):=y7 (by omega);obtain⟨K,B,E,F⟩:=m i _ s;obtain⟨_,R⟩:=g i _ s;obtain⟨G,I,Z,p3,V⟩:=H i o;rw [R] at I;cases I;have w:K.length=rs:=by have:=congrArg List.length E;simp only [Y9] at this;omega
 refine⟨K,by rw [T.au];exact B,w,F,λj U=>?_⟩;rw [V j U,← aX,← aX,E];subst p;simp only [qj] at a;obtain⟨M,v,a⟩:=D5 a;cases a;obtain⟨t,u⟩:=hb;obtain⟨f,m,Q⟩:=Gv D _ _ v u;exact⟨by rw [m,f];exact t,Q⟩;subst p;simp only [qj] at a;obtain⟨q,v,a⟩:=D5 a;cases a;obtain⟨t,u⟩:=hb;obtain⟨f,m,_⟩:=D _ _ v t;exact⟨f,by rw [m];exact u⟩
mutual
theorem rY {r1 r2:Nat->Option Nat}:∀(v u t:o7),fK r1 v=some u->fK r2 u=some t->fK (λi=>ob (r1 i) r2) v=some t
 | .undef,u,t,h,h' | .bool _,u,t,h,h' | .int _ _,u,t,h,h' | .str _,u,t,h,h' | .nilPtr,u,t,h,h' | .nilSlice,u,t,h,h' | .nilMap,u,t,h,h' | .nilFunc,u,t,h,h' | .nilIface,u,t,h,h'=>by simp only [fK,Hl] at h;subst h;simpa only [fK] using h'
 | .ptr i o,u,t,h,h' | .slice i o _ _,u,t,h,h' | .sliceU i o _ _,u,t,h,h' | .map i,u,t,h,h'=>by simp only [fK] at h;obtain⟨j,h1,h2⟩:=D5 h;cases h2;simp only [fK] at h' ⊢;obtain⟨k,h3,h4⟩:=D5 h';rw [h1,O0,h3];exact h4
 | .func fn a b,u,t,h,h'=>by
  cases fn with
  | yield l=>simp only [fK] at h;cases h
  | _=>simp only [fK] at h;obtain⟨x,h1,h⟩:=D5 h;obtain⟨y,h2,h⟩:=D5 h;cases h;simp only [fK] at h' ⊢;obtain⟨x',h3,h'⟩:=D5 h';obtain⟨y',h4,h'⟩:=D5 h';rw [rZ a x x' h1 h3,O0,rZ b y y' h2 h4];exact h'
 | .iface ty v,u,t,h,h'=>by simp only [fK] at h;obtain⟨x,h1,h⟩:=D5 h;cases h;simp only [fK] at h' ⊢;obtain⟨x',h3,h'⟩:=D5 h';rw [rY v x x' h1 h3];exact h'
 | .nN v,u,t,h,h'=>by simp only [fK] at h;cases h
 | .agg l,u,t,h,h' | .tuple l,u,t,h,h'=>by simp only [fK] at h;obtain⟨x,h1,h⟩:=D5 h;cases h;simp only [fK] at h' ⊢;obtain⟨x',h3,h'⟩:=D5 h';rw [rZ l x x' h1 h3];exact h'
theorem rZ {r1 r2:Nat->Option Nat}:∀(v u t:List o7),lq r1 v=some u->lq r2 u=some t->lq (λi=>ob (r1 i) r2) v=some t
 | [],u,t,h,h'=>by simp only [lq,Hl] at h;subst h;simpa only [lq] using h'
 | v::l,u,t,h,h'=>by simp only [lq] at h;obtain⟨x,h1,h⟩:=D5 h;obtain⟨y,h2,h⟩:=D5 h;cases h;simp only [lq] at h' ⊢;obtain⟨x',h3,h'⟩:=D5 h';obtain⟨y',h4,h'⟩:=D5 h';rw [rY v x x' h1 h3,O0,rZ l y y' h2 h4];exact h'
end
theorem Gx {r1 r2:Nat->Option Nat}:∀(v u t:List (List o7)),oN r1 v=some u->oN r2 u=some t->oN (λi=>ob (r1 i) r2) v=some t
 | [],u,t,h,h'=>by simp only [oN,Hl] at h;subst h;simpa only [oN] using h'
 | v::l,u,t,h,h'=>by simp only [oN] at h;obtain⟨x,h1,h⟩:=D5 h;obtain⟨y,h2,h⟩:=D5 h;cases h;simp only [oN] at h' ⊢;obtain⟨x',h3,h'⟩:=D5 h';obtain⟨y',h4,h'⟩:=D5 h';rw [rZ v x x' h1 h3,O0,Gx l y y' h2 h4];exact h'
theorem JZ {r1 r2:Nat->Option Nat}:∀(v u t:List (o7×o7)),Ei r1 v=some u->Ei r2 u=some t->Ei (λi=>ob (r1 i) r2) v=some t
 | [],u,t,h,h'=>by simp only [Ei,Hl] at h;subst h;simpa only [Ei] using h'
 | e::l,u,t,h,h'=>by simp only [Ei] at h;obtain⟨x,h1,h⟩:=D5 h;obtain⟨y,h2,h⟩:=D5 h;obtain⟨z,h3,h⟩:=D5 h;cases h;simp only [Ei] at h' ⊢;obtain⟨x',h4,h'⟩:=D5 h';obtain⟨y',h5,h'⟩:=D5 h';obtain⟨z',h6,h'⟩:=D5 h';rw [rY e.1 x x' h1 h4,O0,rY e.2 y y' h2 h5,O0,JZ l z z' h3 h6];exact h'
theorem VE {d e:Nat->Option Nat}{v u t:NB}(h:qj d v=some u)(h':qj e u=some t):qj (λi=>ob (d i) e) v=some t:=by
 cases v<;>simp only [qj] at h
 obtain⟨x,a,h⟩:=D5 h;cases h;simp only [qj] at h' ⊢;obtain⟨c,b,h'⟩:=D5 h';rw [Gx _ x c a b];exact h';obtain⟨x,a,h⟩:=D5 h;cases h;simp only [qj] at h' ⊢;obtain⟨c,b,h'⟩:=D5 h';rw [JZ _ x c a b];exact h';obtain⟨x,a,h⟩:=D5 h;cases h;simp only [qj] at h' ⊢;obtain⟨c,b,h'⟩:=D5 h';rw [a,O0,b];exact h';cases h;exact h'
theorem xJ {r:Nat->Option Nat}:∀(l l':List NB),uF r l=some l'->l'.length=l.length∧∀(i:Nat) x,l'[i]?=some x->∃y,l[i]?=some y∧qj r y=some x
 | [],l',h=>by simp only [uF,Hl] at h;subst h;simp
 | v::l,l',h=>by
  simp only [uF] at h;obtain⟨x,h1,h⟩:=D5 h;obtain⟨y,h2,h⟩:=D5 h;cases h;obtain⟨g1,g2⟩:=xJ l y h2;refine⟨by simp [g1],λi u hu=>?_⟩;cases i with
  | zero=>simp at hu;subst hu;exact⟨v,rfl,h1⟩
  | succ i=>obtain⟨z,h3,h4⟩:=g2 i u (by simpa using hu);exact⟨z,by simpa using h3,h4⟩
mutual
theorem EJ (lo:Nat):∀(v:o7),∀i∈IK lo v,lo<=i
 | .ptr i _,j,h | .slice i _ _ _,j,h | .sliceU i _ _ _,j,h | .map i,j,h=>by
  simp only [IK] at h;cases hb:Nat.ble lo i with
  | true=>rw [hb] at h;obtain rfl:=aA.1 h;exact U9 hb
  | false=>rw [hb] at h;cases h
 | .func fn a b,j,h=>by simp only [IK] at h;rcases aau.1 h with h | h;exact xK lo a j h;exact xK lo b j h
 | .iface _ v,j,h=>by simp only [IK] at h;exact EJ lo v j h
 | .agg l,j,h | .tuple l,j,h=>by simp only [IK] at h;exact xK lo l j h
 | .undef,j,h | .bool _,j,h | .int _ _,j,h | .str _,j,h | .nilPtr,j,h | .nilSlice,j,h | .nilMap,j,h | .nilFunc,j,h | .nilIface,j,h | .nN _,j,h=>by simp only [IK] at h;cases h
theorem xK (lo:Nat):∀(l:List o7),∀i∈rJ lo l,lo<=i
 | [],j,h=>by simp only [rJ] at h;cases h
 | v::l,j,h=>by simp only [rJ] at h;rcases aau.1 h with h | h;exact EJ lo v j h;exact xK lo l j h
end
theorem Po (lo:Nat):∀(l:List (List o7)),∀i∈Oc lo l,lo<=i
 | [],j,h=>by simp only [Oc] at h;cases h
 | v::l,j,h=>by simp only [Oc] at h;rcases aau.1 h with h | h;exact xK lo v j h;exact Po lo l j h
theorem TL (lo:Nat):∀(l:List (o7×o7)),∀i∈XA lo l,lo<=i
 | [],j,h=>by simp only [XA] at h;cases h
 | e::l,j,h=>by simp only [XA] at h;rcases aau.1 h with h | h;exact EJ lo _ j h;rcases aau.1 h with h | h;exact EJ lo _ j h;exact TL lo l j h
theorem abd (lo:Nat)(b:NB):∀i∈Od lo b,lo<=i:=by
 intro i h;cases b with
 | cells rs rows=>exact Po lo rows i h
 | map es=>exact TL lo es i h
 | tail p=>
  simp only [Od] at h;cases hb:Nat.ble lo p with
  | true=>rw [hb] at h;obtain rfl:=aA.1 h;exact U9 hb
  | false=>rw [hb] at h;cases h
 | dead=>cases h
def Good (m:Mem)(lo:Nat)(l:List (Nat×NB)):Prop:=(∀p∈l,lo<=p.1∧∃b,m.get p.1=some b∧yP b=some p.2)∧(l.map (·.1)).Nodup
theorem Gy (n:Nat):∀l:List (Nat×NB),Ju n l=true∨n∉l.map (·.1)
 | []=>.inr (by simp)
 | x::l=>by
  show bi (Nat.beq x.1 n) true (Ju n l)=true∨_;cases hb:Nat.beq x.1 n with
  | true=>exact .inl rfl
  | false=>rcases Gy n l with h | h;exact .inl h;refine .inr λhm=>?_;rcases Y4.1 (by simpa using hm:n∈x.1::l.map (·.1)) with h1 | h1;rw [h1,aaz] at hb;cases hb;exact h h1
theorem RY {m:Mem}{lo:Nat}:∀(k:Nat) (work:List Nat) (seen out:List (Nat×NB)),(∀i∈work,lo<=i)->Good m lo seen->reach m lo k work seen=some out->Good m lo out:=by
 intro k;induction k with
 | zero=>intro work seen out _ _ h;cases h
 | succ k ih=>
  intro work seen out f c h;cases work with
  | nil=>have h:some seen.reverse=some out:=h;cases h;exact⟨λp d=>c.1 p (al9.1 d),by rw [List.map_reverse];exact List.pairwise_reverse.2 (c.2.imp λh e=>h e.symm)⟩
  | cons i work=>
   have h:bi (Ju i seen) (reach m lo k work seen) (ob (m.get i) λb=>ob (yP b) λg=>reach m lo k (Od lo g++work) ((i,g)::seen))=some out:=h;rcases Gy i seen with h1 | h1;rw [h1] at h;exact ih work seen out (λj a=>f j (by simp [a])) c h;cases hb:Ju i seen with
   | true=>rw [hb] at h;exact ih work seen out (λj a=>f j (by simp [a])) c h
   | false=>rw [hb] at h;obtain⟨b,l,h⟩:=D5 h;obtain⟨g,n,h⟩:=D5 h;refine ih _ _ out (λj a=>?_) ⟨λp d=>?_,?_⟩ h;rcases aau.1 a with a | a;exact abd lo g j a;exact f j (by simp [a]);rcases Y4.1 d with rfl | d;exact⟨f i (by simp),b,l,n⟩;exact c.1 p d;rw [Z5];exact ad1.2 ⟨h1,c.2⟩
theorem AL (i:Nat):∀(l:List Nat) (k j:Nat),placeOf i l k=some j->k<=j∧l[j-k]?=some i
 | [],k,j,h=>by cases h
 | x::l,k,j,h=>by
  have h:bi (Nat.beq x i) (some k) (placeOf i l (k+1))=some j:=h;cases hb:Nat.beq x i with
  | true=>rw [hb] at h;cases h;rw [q9 hb];simp
  | false=>rw [hb] at h;obtain⟨h1,h2⟩:=AL i l (k+1) j h;exact⟨by omega,by rw [show j-k=(j-(k+1))+1 from by omega];simpa using h2⟩
theorem Ka {lo i j:Nat}{a:List Nat}(h:uS lo a i=some j):(i<lo∧j=i)∨(lo<=i∧lo<=j∧a[j-lo]?=some i):=by
 unfold uS at h;cases hb:Nat.ble lo i with
 | true=>rw [hb] at h;obtain⟨b,c⟩:=AL i a lo j h;exact .inr ⟨U9 hb,b,c⟩
 | false=>rw [hb] at h;have h:some i=some j:=h;cases h;exact .inl ⟨Nat.lt_of_not_le (JH hb),rfl⟩
theorem um {m:Mem}{lo:Nat}{a:List o7}{c:CO}(h:iG lo a m=some c):∃seen,Good m lo seen∧c.ids=seen.map (·.1)∧lq (uS lo c.ids) a=some c.vs∧uF (uS lo c.ids) (seen.map (·.2))=some c.bs:=by obtain⟨seen,b,h⟩:=D5 h;obtain⟨f,d,h⟩:=D5 h;obtain⟨bs,e,h⟩:=D5 h;cases h;exact⟨seen,RY _ _ _ _ (xK lo a) ⟨(λp (hp:p∈([]:List (Nat×NB)))=>by cases hp),(by simp:(([]:List (Nat×NB)).map (·.1)).Nodup)⟩ b,rfl,d,e⟩
theorem Pp (b:NB)(a:List NB)(m:Mem):layAll (b::a) m=layAll a (m.new (fC b)):=rfl
theorem qJ:∀(bs:List NB) (m:Mem),T.Ok m.t m.nx->T.Ok (layAll bs m).t (layAll bs m).nx∧(layAll bs m).nx=m.nx+bs.length∧(layAll bs m).lim=m.lim∧
  ∀i,(layAll bs m).get i=if i<m.nx then m.get i else (bs[i-m.nx]?).map fC
 | [],m,h=>by
  refine⟨h,rfl,rfl,λi=>?_⟩;show m.get i=_;split;rfl;rename_i hi;cases hg:m.get i with
  | none=>simp
  | some x=>exact absurd (Mem.I8 h hg) hi
 | b::bs,m,h=>by obtain⟨h1,h2,h3,h4⟩:=qJ bs (m.new (fC b)) (h.push _);rw [Pp];refine⟨h1,by rw [h2];simp;omega,h3,λi=>?_⟩;rw [h4,Mem.Oo,Mem.K6 h];by_cases hi:i<m.nx;rw [if_pos (by omega),if_neg (by omega),if_pos hi];by_cases he:i=m.nx;subst he;rw [if_pos (by omega),if_pos rfl,if_neg (by omega)];simp;rw [if_neg (by omega),if_neg hi,show i-m.nx=(i-(m.nx+1))+1 from by omega];simp
end
section
variable {P:Program}{G:Mem}{ι:K7}{m:Mem}{w:World}
structure Gz (G:Mem)(ET:List NB):Prop where
 ok:T.Ok G.t G.nx
 len:ET.length=G.nx
 get:∀i,i<G.nx->G.get i=(ET[i]?).map fC
 shut:∀nb∈ET,qj (λi=>bi (Nat.blt i G.nx) (some i) none) nb=some nb
noncomputable abbrev O4 (G:Mem)(bs:List NB):Mem:=(layAll bs G).shut
def jI (P:Program)(G:Mem)(f:FuncId)(args:List o7)(bs:List NB)(a:BX):Prop:=
 ∀(ι:K7) (w:World),RM P G ι (O4 G bs) w.heap->bB ((O4 G bs).nm ι) args->
  CallsIn Fence.wide 0 P f (z8 ι args).toArray w λe w'=>∃ι' r,Step P G ι (O4 G bs) w ι' r.m w'∧r.v.lt (r.m.nm ι')∧e=.returned (u6 ι' r.v)∧yw (layAll bs G).nx r=some a
theorem DL:∀a b:List (List o7),BU a b=true->a=b
 | [],[],_=>rfl
 | [],_ :: _,h=>by simp only [BU] at h;cases h
 | _ :: _,[],h=>by simp only [BU] at h;cases h
 | x::a,y::b,h=>by simp only [BU] at h;obtain⟨h1,h2⟩:=dX h;rw [lZ (jU 100) _ _ h1,DL a b h2]
theorem GA:∀a b:List (o7×o7),Jv a b=true->a=b
 | [],[],_=>rfl
 | [],_ :: _,h=>by simp only [Jv] at h;cases h
 | _ :: _,[],h=>by simp only [Jv] at h;cases h
 | x::a,y::b,h=>by simp only [Jv] at h;obtain⟨h1,h2⟩:=dX h;obtain⟨h2,h3⟩:=dX h2;have e1:=jU 100 _ _ h1;have e2:=jU 100 _ _ h2;obtain⟨x1,x2⟩:=x;obtain⟨y1,y2⟩:=y;have e1:x1=y1:=e1;have e2:x2=y2:=e2;rw [e1,e2,GA a b h3]
theorem RZ:∀a b:NB,XB a b=true->a=b:=by
 intro a b h;cases a<;>cases b<;>simp only [XB] at h<;>first | (cases h;done) | skip
 obtain⟨c,d⟩:=dX h;rw [q9 c,DL _ _ d];rw [GA _ _ h];rw [q9 h];rfl
theorem qK:∀a b:List NB,lN a b=true->a=b
 | [],[],_=>rfl
 | [],_ :: _,h=>by simp only [lN] at h;cases h
 | _ :: _,[],h=>by simp only [lN] at h;cases h
 | x::a,y::b,h=>by simp only [lN] at h;obtain⟨h1,h2⟩:=dX h;rw [RZ _ _ h1,qK a b h2]
theorem wD {lo:Nat}:∀(l:List VM) (a:BX),Lg lo l=some a->∀r∈l,yw lo r=some a
 | [],a,h,r,hr=>by cases hr
 | [x],a,h,r,hr=>by obtain rfl:=aA.1 hr;obtain⟨b,h1,h2⟩:=D5 h;have h2:some b=some a:=h2;cases h2;exact h1
 | x::y::l,a,h,r,hr=>by obtain⟨b,h1,h2⟩:=D5 h;have h2:(ob (Lg lo (y::l)) λc=>bi (dh 100 b.v c.v) (bi (lN b.bs c.bs) (some b) none) none)=some a:=h2;obtain⟨c,h3,h2⟩:=D5 h2;obtain⟨h4,h2⟩:=D8 h2;obtain⟨h5,h2⟩:=D8 h2;have h2:some b=some a:=h2;cases h2;rcases Y4.1 hr with rfl | hr;exact h1;have:=wD (y::l) c h3 r hr;rw [this];have e1:=jU 100 _ _ h4;have e2:=qK _ _ h5;obtain⟨av,ab⟩:=a;obtain⟨cv,cb⟩:=c;have e1:av=cv:=e1;have e2:ab=cb:=e2;rw [e1,e2]
theorem Sb {cf:F8}(i:nR P G cf){g:kH}(o:aaZ P G g)(j:P.follows .mixedOrders=true)(b:Nat){f:FuncId}{sf:aW}(z:ql P f sf){args:List o7}{k:List NB}{a:BX}
  (h:(ob (mU cf g b sf args (O4 G k)) λl=>Lg (layAll k G).nx l)=some a):jI P G f args k a:=by
 intro ι w A c;obtain⟨l,t,p⟩:=D5 h;refine (OW i o b (λd B r=>pE j i d B r) z t A c).mono ?_;rintro e w' (⟨v,rfl,r,hr,ι',g1,g2,rfl⟩ | ⟨r,hr,x,ι',hx,_⟩);exact⟨ι',r,g1,g2,rfl,wD l a p r hr⟩;exfalso;have u:=wD l a p r hr;obtain⟨C,n,_⟩:=D5 u;obtain⟨s,_,_,m,_⟩:=um n;rw [hx] at m;simp only [lq] at m;obtain⟨y,q,_⟩:=D5 m;simp only [fK] at q;cases q
theorem Mc {α:Type}(l:List α):(T.ofList l).slice l.length 0=some l:=by
 have a:∀(k i:Nat),i+k=l.length->(T.ofList l).slice k i=some (l.drop i):=by
  intro k;induction k with
  | zero=>intro i h;rw [T.FJ,abC (by omega)]
  | succ k ih=>
   intro i h;have b:i<l.length:=by omega
   rw [T.yS,T.au,y7 b,O0,ih (i+1) (by omega),O0,List.getElem_cons_drop]
 exact a l.length 0 (by omega)
theorem Sc (nb:NB):yP (fC nb)=some nb:=by
 cases nb with
 | cells rs rows=>show (ob ((T.ofList rows).slice (len' rows) 0) λl=>some (NB.cells rs l))=_;rw [I9,Mc];rfl
 | map es=>rfl
 | tail p=>rfl
 | dead=>rfl
def gW (g:Nat)(ι:K7)(ids:List Nat):K7:=λi=>if i<g then ι i else ι (ids.getD (i-g) 0)
theorem abe (J:∃ET,Gz G ET)(u:RM P G ι m w.heap){Q:List o7}{c:CO}(hc:iG G.nx Q m=some c)(V:bB (m.nm ι) Q):
  RM P G (gW G.nx ι c.ids) (O4 G c.bs) w.heap∧bB ((O4 G c.bs).nm (gW G.nx ι c.ids)) c.vs∧z8 (gW G.nx ι c.ids) c.vs=z8 ι Q∧c.bs.length=c.ids.length∧
   (∀(k i:Nat),c.ids[k]?=some i->G.nx<=i∧m.has i)∧(∀i,G.nx<=i->i<(O4 G c.bs).nx->∃j,c.ids[i-G.nx]?=some j):=by
 obtain⟨ET,J⟩:=J;obtain⟨N,⟨S,a0⟩,r,O,h4⟩:=um hc;obtain⟨Z,l2,l3,l4⟩:=qJ c.bs G J.ok;obtain⟨b1,b2⟩:=xJ _ _ h4;have B:c.bs.length=c.ids.length:=by rw [b1,r];simp
 have h:∀(k i:Nat),c.ids[k]?=some i->G.nx<=i∧∃b z nb',m.get i=some b∧yP b=some z∧c.bs[k]?=some nb'∧qj (uS G.nx c.ids) z=some nb':=by
  intro k i n;rw [r,aaB] at n;cases hp:N[k]? with
  | none=>rw [hp] at n;cases n
  | some p=>
   rw [hp] at n;have n:p.1=i:=Y5 n;obtain⟨C,b,D,A⟩:=S p (Xb hp);rw [n] at C D;have L:k<c.bs.length:=by rw [B,r,adK];exact (y8.1 hp).1
   obtain⟨y,E,q5⟩:=b2 k _ (y7 L);rw [aaB,hp] at E;have E:p.2=y:=Y5 E;rw [← E] at q5;exact⟨C,b,p.2,_,D,A,y7 L,q5⟩
 have f:∀i,(O4 G c.bs).get i=if i<G.nx then G.get i else (c.bs[i-G.nx]?).map fC:=l4
 have v:(O4 G c.bs).nx=G.nx+c.bs.length:=l2;have d:∀i,i<G.nx->m.get i=G.get i:=u.base;have F:∀k i,c.ids[k]?=some i->gW G.nx ι c.ids (G.nx+k)=ι i:=by intro k i n;unfold gW;rw [if_neg (by omega),show G.nx+k-G.nx=k from by omega,Y8,n];rfl
 have o:∀i,i<G.nx->gW G.nx ι c.ids i=ι i:=λi g=>if_pos g;have Y:DJ ι (m.nm ι) (gW G.nx ι c.ids) ((O4 G c.bs).nm (gW G.nx ι c.ids)) (uS G.nx c.ids):=by intro i j s ⟨y,hy,hyv⟩;rcases Ka s with⟨l,rfl⟩ | ⟨l,I,O⟩;refine⟨⟨y,?_,hyv⟩,o _ l,congrArg Loc.cap (o _ l)⟩;rw [f,if_pos l,← d _ l];exact hy;have e:=F (j-G.nx) i O;rw [show G.nx+(j-G.nx)=j from by omega] at e;obtain⟨_,_,_,nb',_,_,q,_⟩:=h (j-G.nx) i O;refine⟨⟨fC nb',?_,zo nb'⟩,e,congrArg Loc.cap e⟩;rw [f,if_neg (by omega),q];rfl
 have U:DJ ι (m.nm ι) (gW G.nx ι c.ids) ((O4 G c.bs).nm (gW G.nx ι c.ids)) (λi=>bi (Nat.blt i G.nx) (some i) none):=by intro i j s ⟨y,hy,hyv⟩;have s:bi (Nat.blt i G.nx) (some i) none=some j:=s;obtain⟨l,I⟩:=D8 s;cases I;have l:i<G.nx:=Eq.mp Y3 l;refine⟨⟨y,?_,hyv⟩,o _ l,congrArg Loc.cap (o _ l)⟩;rw [f,if_pos l,← d _ l];exact hy
 obtain⟨v1,v2⟩:=jW Y Q c.vs O V;have H:∀i x,(O4 G c.bs).get i=some x->U8 x=true->(gW G.nx ι c.ids i).spot=none:=by
  intro i b a M;rw [f] at a;split at a;rename_i g;rw [o i g];exact u.spot i b (by rw [d i g];exact a) M;rename_i g;cases hnb:c.bs[i-G.nx]? with
  | none=>rw [hnb] at a;cases a
  | some z=>
   rw [hnb] at a;have a:fC z=b:=Y5 a;subst a;have n:i-G.nx<c.ids.length:=by have:=(y8.1 hnb).1;omega
   have t:=y7 n;obtain⟨_,bb,X,nb',C,D,A,E⟩:=h _ _ t;rw [hnb] at A;cases A;have e:=F (i-G.nx) _ t;rw [show G.nx+(i-G.nx)=i from by omega] at e;rw [e];exact u.spot _ _ C (by rw [← Gw D E];exact M)
 refine⟨⟨Z,?_,λi x g W=>?_,?_,aP _,u.gle,λi g=>by rw [f,if_pos g],λi g=>?_,λi g=>?_,λi x W hl=>?_,u.gsz⟩,v2,v1,B,λk i n=>?_,λi l I=>?_⟩;intro i b a;rw [f] at a;split at a;rename_i g;rw [o i g];have T:m.get i=some b:=by rw [d i g];exact a
 have R:=u.blk i b T;rw [J.get i g] at a;cases hnb:ET[i]? with
 | none=>rw [hnb] at a;cases a
 | some z=>rw [hnb] at a;have a:fC z=b:=Y5 a;subst a;exact Ma U R (Sc z) (J.shut z (Xb hnb))
 rename_i g;cases hnb:c.bs[i-G.nx]? with
 | none=>rw [hnb] at a;cases a
 | some z=>
  rw [hnb] at a;have a:fC z=b:=Y5 a;subst a;have n:i-G.nx<c.ids.length:=by have:=(y8.1 hnb).1;omega
  have t:=y7 n;obtain⟨_,bb,X,nb',C,D,A,E⟩:=h _ _ t;rw [hnb] at A;cases A;have e:=F (i-G.nx) _ t;rw [show G.nx+(i-G.nx)=i from by omega] at e;rw [e];exact Ma Y (u.blk _ _ C) D E
 have:=Mem.I8 (m:=O4 G c.bs) Z W;have g:(O4 G c.bs).nx<=i:=g;omega;show G.nx<=(O4 G c.bs).nx;rw [v];omega;obtain⟨y,l,I⟩:=u.ghas i g;have K:i<G.nx:=J3 g u.gle;exact⟨y,by rw [f,if_pos K,← d i K];exact l,I⟩;rw [o i (J3 g u.gle)];exact u.glob i g;exact H i x W hl;obtain⟨C,b,z,_,D,A,_⟩:=h k i n;exact⟨C,b,D,VD A⟩;rw [v] at I;exact⟨_,y7 (by omega)⟩
def fQ (next:Nat)(ι ι2:K7)(ids:List Nat):K7:=λi=>if i<next then ι i else ι2 (ids.getD (i-next) 0)
theorem DN {g b i j:Nat}{a:List Nat}(h:iD g a b i=some j):
  (i<g∧j=i)∨(g<=i∧i-g<a.length∧a[i-g]?=some j)∨(g+a.length<=i∧j=b+(i-g-a.length)):=by
 unfold iD at h;rw [I9] at h;cases c:Nat.blt i g with
 | true=>rw [c] at h;have h:some i=some j:=h;cases h;exact .inl ⟨Eq.mp Y3 c,rfl⟩
 | false=>
  rw [c] at h;have c:=ku c;cases d:Nat.blt (Nat.sub i g) a.length with
  | true=>rw [d] at h;have h:nO (i-g) a=some j:=h;rw [jN] at h;exact .inr (.inl ⟨c,Eq.mp Y3 d,h⟩)
  | false=>rw [d] at h;have d:a.length<=i-g:=ku d;have h:some (b+(i-g-a.length))=some j:=h;cases h;exact .inr (.inr ⟨by omega,rfl⟩)
theorem Pq (hB:∃ET,Gz G ET){f:FuncId}{args:List o7}{c:CO}{a:BX}{v:o7}{F:List NB}(E:RM P G ι m w.heap)(a2:bB (m.nm ι) args)(hc:iG G.nx args m=some c)(ha:jI P G f c.vs c.bs a)
  (hv:fK (iD G.nx c.ids m.nx) a.v=some v) (ag:uF (iD G.nx c.ids m.nx) a.bs=some F):
  CallsIn Fence.wide 0 P f (z8 ι args).toArray w (S9 P G ι m w [⟨v,layAll F m⟩]):=by
 have a5:T.Ok G.t G.nx:=by obtain⟨ET,hB⟩:=hB;exact hB.ok
 obtain⟨ab,X,a3,a9,a6,ao⟩:=abe hB E hc a2;have N:=ha (gW G.nx ι c.ids) w ab X;rw [a3] at N;refine N.mono ?_;rintro e w' ⟨ι2,r,hst,hrv,rfl,C⟩;obtain⟨g,ah,C⟩:=D5 C;obtain⟨ad,⟨ai,aj⟩,R,J,Y⟩:=um ah;have an:∃u,g.vs=[u]∧fK (uS (layAll c.bs G).nx g.ids) r.v=some u:=by simp only [lq] at J;obtain⟨x,W,J⟩:=D5 J;obtain⟨y,h6,J⟩:=D5 J;cases h6;have J:some [x]=some g.vs:=J;exact⟨x,(Y5 J).symm,W⟩
 obtain⟨u,hu,am⟩:=an;rw [hu] at C;have C:some (⟨u,g.bs⟩:BX)=some a:=C;cases C;obtain⟨b1,b2⟩:=xJ _ _ Y;obtain⟨b3,b4⟩:=xJ _ _ ag;obtain⟨l1,l2,l3,l4⟩:=qJ c.bs G a5;obtain⟨k1,k2,k3,k4⟩:=qJ F m E.ok;have au:(O4 G c.bs).lim=(layAll c.bs G).nx:=rfl;have ae:(layAll c.bs G).nx=G.nx+c.ids.length:=by rw [l2,a9]
 have ac:∀b,¬ Ol (gW G.nx ι c.ids) (O4 G c.bs) b:=by rintro b ⟨i,x,B,A,_,_⟩;have:=Mem.I8 (m:=O4 G c.bs) ab.ok A;have B:(O4 G c.bs).nx<=i:=B;omega
 have K:∀b,b<w.heap.size->w'.heap[b]?=w.heap[b]?:=λb hb=>hst.frame b hb (ac b);have s:∀i x,(layAll c.bs G).nx<=i->r.m.get i=some x->U8 x=true->w.heap.size<=(ι2 i).b:=by intro i x B A L;rcases hst.own _ ⟨i,x,by rw [hst.lim];exact B,A,L,rfl⟩ with h | h;exact absurd h (ac _);exact h
 have V:∀(k i:Nat),g.ids[k]?=some i->(layAll c.bs G).nx<=i∧∃b nb nb',r.m.get i=some b∧yP b=some nb∧F[k]?=some nb'∧
   qj (λi=>ob (uS (layAll c.bs G).nx g.ids i) (iD G.nx c.ids m.nx)) nb=some nb':=by
  intro k i M;have ar:=M;rw [R,aaB] at M;cases hp:ad[k]? with
  | none=>rw [hp] at M;cases M
  | some p=>
   rw [hp] at M;have M:p.1=i:=Y5 M;obtain⟨q1,b,q2,q3⟩:=ai p (Xb hp);rw [M] at q1 q2;have a4:k<g.bs.length:=by rw [b1,adK];exact (y8.1 hp).1
   have Z:k<F.length:=by rw [b3];exact a4
   obtain⟨y,q4,q5⟩:=b2 k _ (y7 a4);obtain⟨z,q6,q7⟩:=b4 k _ (y7 Z);have q6:g.bs[k]?=some z:=q6;rw [y7 a4] at q6;cases q6;rw [aaB,hp] at q4;have q4:p.2=y:=Y5 q4;rw [← q4] at q5;exact⟨q1,b,p.2,_,q2,q3,y7 Z,VE q5 q7⟩
 have aq:F.length=g.ids.length:=by rw [b3];show g.bs.length=_;rw [b1,R];simp
 have H:∀i,(layAll F m).get i=if i<m.nx then m.get i else (F[i-m.nx]?).map fC:=k4
 have d:∀i,i<m.nx->fQ m.nx ι ι2 g.ids i=ι i:=λi B=>if_pos B;have o:∀k i,g.ids[k]?=some i->fQ m.nx ι ι2 g.ids (m.nx+k)=ι2 i:=by intro k i M;unfold fQ;rw [if_neg (by omega),show m.nx+k-m.nx=k from by omega,Y8,M];rfl
 have aa:∀i x,m.get i=some x->i<m.nx:=λi x A=>Mem.I8 E.ok A;have I:∀i,m.has i->(layAll F m).has i:=λi ⟨x,h1,h2⟩=>⟨x,by rw [H,if_pos (aa i x h1)];exact h1,h2⟩;have D:∀i,m.has i->fQ m.nx ι ι2 g.ids i=ι i:=λi ⟨x,h1,_⟩=>d i (aa i x h1);have ap:G.nx<=m.nx:=gI E.glim E.limn;have hr:DJ ι2 (r.m.nm ι2) (fQ m.nx ι ι2 g.ids) ((layAll F m).nm (fQ m.nx ι ι2 g.ids)) (λi=>ob (uS (layAll c.bs G).nx g.ids i) (iD G.nx c.ids m.nx)):=by
  intro i j ak ⟨y,hy,hyv⟩;obtain⟨t,W,h6⟩:=D5 ak;have a1:(layAll F m).has j∧fQ m.nx ι ι2 g.ids j=ι2 i->((layAll F m).nm (fQ m.nx ι ι2 g.ids)) j∧fQ m.nx ι ι2 g.ids j=ι2 i∧((layAll F m).nm (fQ m.nx ι ι2 g.ids)).cap j=(r.m.nm ι2).cap i:=
   λ⟨p,q⟩=>⟨p,q,congrArg Loc.cap q⟩
  rcases Ka W with⟨h7,rfl⟩ | ⟨h7,h8,h9⟩
  ·
   have O:(O4 G c.bs).get t=some y:=by rw [← hst.old t h7];exact hy
   have a0:ι2 t=gW G.nx ι c.ids t:=hst.ext t ⟨y,O,hyv⟩;rcases DN h6 with⟨h10,rfl⟩ | ⟨h10,h11,h12⟩ | ⟨h10,_⟩;have U:m.has j:=by
    refine⟨y,?_,hyv⟩;have af:(O4 G c.bs).get j=if j<G.nx then G.get j else (c.bs[j-G.nx]?).map fC:=l4 j
    rw [af,if_pos h10] at O;rw [E.base j h10];exact O
   exact a1 ⟨I j U,by rw [D j U,a0];exact (if_pos h10).symm⟩;obtain⟨_,U⟩:=a6 _ _ h12;refine a1 ⟨I j U,?_⟩;rw [D j U,a0];unfold gW;rw [if_neg (by omega),Y8,h12];rfl;omega
  ·
   rcases DN h6 with⟨h10,_⟩ | ⟨h10,h11,_⟩ | ⟨h10,rfl⟩;omega;omega;have e:t-G.nx-c.ids.length=t-(layAll c.bs G).nx:=by omega
   obtain⟨_,_,_,nb',_,_,q,_⟩:=V _ _ h9;refine a1 ⟨⟨fC nb',?_,zo nb'⟩,by rw [e];exact o _ _ h9⟩;rw [e,H,if_neg (by omega),show m.nx+(t-(layAll c.bs G).nx)-m.nx=t-(layAll c.bs G).nx from by omega,q];rfl
 obtain⟨v1,v2⟩:=pF hr r.v v (rY _ _ _ am hv) hrv;have l:∀i x,(layAll F m).get i=some x->(i<m.nx∧m.get i=some x)∨∃k id b,i=m.nx+k∧g.ids[k]?=some id∧r.m.get id=some b∧(layAll c.bs G).nx<=id∧U8 x=U8 b∧
   dN P (fQ m.nx ι ι2 g.ids) ((layAll F m).nm (fQ m.nx ι ι2 g.ids)) w'.heap (ι2 id) x:=by
  intro i x A;rw [H] at A;split at A;exact .inl ⟨by assumption,A⟩;rename_i B;cases hnb:F[i-m.nx]? with
  | none=>rw [hnb] at A;cases A
  | some nb=>
   rw [hnb] at A;have A:fC nb=x:=Y5 A;subst A;have M:i-m.nx<g.ids.length:=by have:=(y8.1 hnb).1;omega
   have a7:=y7 M;obtain⟨q0,b,av,nb',q1,q2,q3,q4⟩:=V _ _ a7;rw [hnb] at q3;cases q3;exact .inr ⟨i-m.nx,_,b,by omega,a7,q1,q0,Gw q2 q4,Ma hr (hst.rm.blk _ _ q1) q2 q4⟩
 refine .inl ⟨u6 ι2 r.v,rfl,⟨v,layAll F m⟩,aA.2 rfl,fQ m.nx ι ι2 g.ids,?_,v2,v1.symm⟩;refine⟨⟨k1,?_,?_,by rw [k3];exact E.glim,by rw [k3,k2];exact gI E.limn (by omega),E.gle,λi B=>by rw [H,if_pos (by omega)];exact E.base i B,λi B=>I i (E.ghas i B),
  λi B=>by rw [D i (E.ghas i B)];exact E.glob i B,λi x A L=>by
   rcases l i x A with⟨h1,h2⟩ | ⟨k,id,b,rfl,h2,J,_,W,_⟩;rw [d i h1];exact E.spot i x h2 L;rw [o k id h2];exact hst.rm.spot id b J (by rw [← W];exact L),hst.rm.gsz⟩,D,I,by rw [k2];omega,k3,λi B=>by rw [H,if_pos (by have:=E.limn;omega)],hst.size,λb hb _=>K b hb,?_,hst.os,hst.out,hst.tape⟩
 intro i x A;rcases l i x A with⟨h1,h2⟩ | ⟨k,id,b,rfl,h2,J,_,_,Y⟩;rw [d i h1];exact (E.blk i x h2).mono (n:=m.nm ι) D (Mem.aH I D) λL=>K _ (eG (E.blk i x h2) L);rw [o k id h2];exact Y;intro i x B A L;rw [k3] at B;rcases l i x A with⟨h1,h2⟩ | ⟨k,id,b,rfl,h2,J,Y,W,h6⟩;have ho:=E.own i x B h2 L;have hb:=eG (E.blk i x h2) L;refine⟨λj y hj hy S=>?_,λc e fz Q=>?_⟩;rcases l j y hy with⟨g1,g2⟩ | ⟨k',id',b',rfl,g2,g3,g4,g5,g6⟩;rw [d j g1,d i h1];exact ho.alone j y hj g2 S;rw [o k' id' g2,d i h1];have:=s id' b' g4 g3 (by rw [← g5];exact S);omega;rw [d i h1,K _ hb] at Q;exact ho.free c e fz Q;have a8:U8 b=true:=by rw [← W];exact L
 have ho:=hst.rm.own id b (by rw [hst.lim];exact Y) J a8;have hn:=s id b Y J a8;refine⟨λj y hj hy S=>?_,λc e fz Q=>?_⟩;rw [o k id h2];rcases l j y hy with⟨g1,g2⟩ | ⟨k',id',b',rfl,g2,g3,g4,g5,g6⟩;rw [d j g1];have:=eG (E.blk j y g2) S;omega;rw [o k' id' g2];refine ho.alone id' b' (λe=>hj ?_) g3 (by rw [← g5];exact S);subst e;have al:g.ids.Nodup:=by rw [R];exact aj
 have:k'=k:=(adE (y8.1 g2).1 al).1 (g2.trans h2.symm);rw [this];rw [o k id h2] at Q;exact ho.free c e fz Q;rintro b ⟨i,x,B,A,L,rfl⟩;rw [k3] at B;rcases l i x A with⟨h1,h2⟩ | ⟨k,id,bb,rfl,h2,J,Y,W,h6⟩;rw [d i h1];exact .inl ⟨i,x,B,h2,L,rfl⟩;rw [o k id h2];exact .inr (s id bb Y J (by rw [← W];exact L))
end
section
variable {P:Program}
structure Sum where
 f:FuncId
 args:List o7
 bs:List NB
 a:BX
noncomputable def sumOf (l:List Sum)(f:FuncId)(args:List o7)(bs:List NB):Option BX:=
 List.rec none (λs _ ih=>bi (Nat.beq s.f f) (bi (yc (dh 100) s.args args) (bi (lN s.bs bs) (some s.a) ih) ih) ih) l
theorem zq {G:Mem}:∀(l:List Sum),(∀s∈l,jI P G s.f s.args s.bs s.a)->∀f args bs a,sumOf l f args bs=some a->jI P G f args bs a
 | [],_,f,args,bs,a,h=>by cases h
 | s::l,hl,f,args,bs,a,h=>by
  have ih:=zq l (λs hs=>hl s (by simp [hs])) f args bs a;have h:bi (Nat.beq s.f f) (bi (yc (dh 100) s.args args) (bi (lN s.bs bs) (some s.a) (sumOf l f args bs)) (sumOf l f args bs)) (sumOf l f args bs)=some a:=h;cases h1:Nat.beq s.f f with
  | false=>rw [h1] at h;exact ih h
  | true=>
   rw [h1] at h;cases h2:yc (dh 100) s.args args with
   | false=>rw [h2] at h;exact ih h
   | true=>
    rw [h2] at h;cases h3:lN s.bs bs with
    | false=>rw [h3] at h;exact ih h
    | true=>rw [h3] at h;have h:some s.a=some a:=h;cases h;rw [← q9 h1,← lZ (jU 100) _ _ h2,← qK _ _ h3];exact hl s (by simp)
structure Yt (P:Program)(K:Known):Prop where
 mix:P.follows .mixedOrders=true
 fns:∀f sf,K.fns f=some sf->ql P f sf
 base:∃ET,Gz K.base ET
 sum:∀f args bs a,K.sum f args bs=some a->jI P K.base f args bs a
 eff:∀{f:FuncId} {args:List o7} {m:Mem} {outs:List VM},K.eff f args m=some outs->Cn P f∧∀{ι:K7} {w:World},RM P K.base ι m w.heap->bB (m.nm ι) args->
  CallsIn Fence.wide 0 P f (z8 ι args).toArray w (S9 P K.base ι m w outs)
theorem wE (K:Known)(a:Nat)(b:Fn)(args:List o7)(m:Mem):r9 K a 0 b args m=none:=rfl
theorem eT (K:Known)(fuel n:Nat)(fn:Fn)(args:List o7)(m:Mem):r9 K fuel (n+1) fn args m=match fn with
  | .func f=>Option.rec (ob (K.fns f) λsf=>bi sf.pure (jD K (r9 K fuel n) fuel f sf args m) (mU (r9 K fuel n) (qz K (r9 K fuel n) fuel) fuel sf args m)) (λl=>some l) (K.eff f args m)
  | .yield l=>Lh (r9 K fuel n) fuel l args m
  | _=>none:=rfl
theorem Pt {K:Known}(i:Yt P K){cf:F8}(d:nR P K.base cf){c:Nat}{f:FuncId}{sf:aW}(j:ql P f sf){args:List o7}{g:List NB}{a:BX}(h:Dl K cf c f sf args g=some a):jI P K.base f args g a:=by
 unfold Dl at h;cases hs:K.sum f args g with
 | some b=>rw [hs] at h;have h:some b=some a:=h;cases h;exact i.sum f args g _ hs
 | none=>rw [hs] at h;exact Sb d (JY i.fns d c λe k r=>pE i.mix d e k r) i.mix c j h
theorem Cy {K:Known}(g:Yt P K)(b:Nat):∀n,nR P K.base (r9 K b n):=by
 intro n;induction n with
 | zero=>exact⟨(λh=>by rw [wE] at h;cases h),(λh=>by rw [wE] at h;cases h),(λh=>by rw [wE] at h;cases h)⟩
 | succ n ih=>
  refine⟨λ{f args m outs} h=>?_,λ{l args m outs} h {ι w} hm hargs=>?_,λ{fn args m outs} h=>?_⟩
  ·rw [eT] at h;have h:(Option.rec (ob (K.fns f) λe=>bi e.pure (jD K (r9 K b n) b f e args m) (mU (r9 K b n) (qz K (r9 K b n) b) b e args m)) (λl=>some l) (K.eff f args m):dU)=some outs:=h;cases he:K.eff f args m with
   | some l=>rw [he] at h;have h:some l=some outs:=h;cases h;exact g.eff he
   | none=>
   rw [he] at h;have h:(ob (K.fns f) λe=>bi e.pure (jD K (r9 K b n) b f e args m) (mU (r9 K b n) (qz K (r9 K b n) b) b e args m))=some outs:=h;obtain⟨e,k,h⟩:=D5 h;have j:=g.fns f e k;refine⟨j.ok,λ{ι w} hm hargs=>?_⟩;cases hp:e.pure with
   | false=>rw [hp] at h;exact OW ih (JY g.fns ih b λd i r=>pE g.mix ih d i r) b (λd i r=>pE g.mix ih d i r) j h hm hargs
   | true=>rw [hp] at h;have h:jD K (r9 K b n) b f e args m=some outs:=h;obtain⟨c,o,h⟩:=D5 h;obtain⟨a,p,h⟩:=D5 h;obtain⟨v,q,h⟩:=D5 h;obtain⟨t,s,h⟩:=D5 h;cases h;exact Pq g.base hm hargs o (Pt g ih j p) q s
  rw [eT] at h;exact OV ih b (λd i r=>pE g.mix ih d i r) h hm hargs;rw [eT] at h;cases fn with
  | func f=>exact .inl ⟨f,rfl⟩
  | yield l=>exact .inr ⟨l,rfl⟩
  | _=>cases h
theorem Sd {K:Known}(d:Yt P K){b n:Nat}{f:FuncId}{sf:aW}(e:ql P f sf){args:List o7}{c:List NB}{a:BX}(h:Dl K (r9 K b n) b f sf args c=some a):jI P K.base f args c a:=
 Pt d (Cy d b n) e h
end
noncomputable def VF (pure rc:Bool)(a:AFn):aW:=⟨pure,a.args,a.nslots,a.results,xB a.body,bif rc then some a.body else none⟩
theorem TM {P:Program}{slots:List Nat}{f:FuncId}{a:AFn}(h:Ri P slots f=some a)(pure rc:Bool):ql P f (VF pure rc a):=by
 unfold Ri at h;split at h;cases h;rename_i i e;split at h;cases h;rename_i c j;split at h;rename_i b r o p;split at h;rename_i g;cases h;simp only [l9,bne_iff_ne,ne_eq] at g;obtain⟨⟨⟨k,l⟩,m⟩,n⟩:=g;refine⟨⟨i,e,by rw [j];rfl,n⟩,slots,i,c,b,r,e,j,o,p,k,λt q=>?_,?_,rfl,rfl,rfl,rfl,λs d=>?_⟩;exact Eq.mp Y3 (aaI.1 l t q);have:slots.length<1152921504606846976:=Eq.mp Y3 m;exact this;cases rc with
 | true=>exact (Y5 d).symm
 | false=>cases d
 cases h;cases h
theorem Me {P:Program}{slots:List Nat}{f:FuncId}{pure rc:Bool}{sf:aW}(h:(Ri P slots f).map (VF pure rc)=some sf):ql P f sf:=by
 cases hc:Ri P slots f with
 | none=>rw [hc] at h;cases h
 | some a=>rw [hc] at h;cases h;exact TM hc pure rc
end Go.AM
namespace Go.AM
open Go
noncomputable section
def TOk (P:Program)(r:Nat->Nat)(t:T (Option aW)):Prop:=∀i sf,t.get i=some (some sf)->ql P (r i) sf
theorem amU {P:Program}{r:Nat->Nat}:TOk P r .e:=λi a h=>by cases h
def OOk (P:Program)(i:Nat)(o:Option aW):Prop:=∀sf,o=some sf->ql P i sf
theorem amW {P:Program}{i:Nat}:OOk P i none:=λ_ h=>by cases h
theorem amX {P:Program}{i:Nat}{sf:aW}(h:ql P i sf):OOk P i (some sf):=λ_ e=>by cases e;exact h
theorem ai5 {P:Program}{r:Nat->Nat}{a b:T (Option aW)}{x:Option aW}(d:TOk P (λi=>r (2*i+1)) a)(f:OOk P (r 0) x)(hb:TOk P (λi=>r (2*i+2)) b):TOk P r (.nd a x b):=by
 intro i sf h;cases i with
 | zero=>exact f sf (Y5 h)
 | succ j=>
  have h:(Nat.rec (a.get (Nat.div j 2)) (λ_ _=>b.get (Nat.div j 2)) (Nat.mod j 2):Option (Option aW))=some (some sf):=h;rcases aaG j with h2 | h2;have c:Nat.mod j 2=0:=h2;rw [c] at h;have:=d _ sf h;have e:2*Nat.div j 2+1=j+1:=by have:Nat.div j 2=j / 2:=rfl;omega
  have this:ql P (r (2*Nat.div j 2+1)) sf:=this;rw [e] at this;exact this;have c:Nat.mod j 2=1:=h2;rw [c] at h;have:=hb _ sf h;have e:2*Nat.div j 2+2=j+1:=by have:Nat.div j 2=j / 2:=rfl;omega
  have this:ql P (r (2*Nat.div j 2+2)) sf:=this;rw [e] at this;exact this
section
variable {α β γ:Type}
@[simp] theorem ala (a:α)(f:α->Option (List β)):bnd (some [a]) f=f a:=_root_.id rfl
@[simp] theorem amY (f:α->Option (List β)):bnd (none:Option (List α)) f=none:=_root_.id rfl
@[simp] theorem ai6 (a:α)(f:α->Option β):Ra (some [a]) f=f a:=_root_.id rfl
@[simp] theorem adk (a:α)(z:β)(f:α->β):(Option.rec z (λv=>f v) (some a):β)=f a:=_root_.id rfl
@[simp] theorem adl (z:β)(f:α->β):(Option.rec z (λv=>f v) none:β)=z:=_root_.id rfl
end
section
variable (k:IntKind)(b:Bool)(n:Int)(s:List UInt8)(i o l c:Nat)(v:o7)(as bs:List o7)(fn:Fn){β:Type}
@[simp] theorem agH (p:o7->β)(q:β):dW (.bool b) p q=q:=_root_.id rfl
@[simp] theorem ai7 (p:o7->β)(q:β):dW (.int k n) p q=q:=_root_.id rfl
@[simp] theorem ai8 (p:o7->β)(q:β):dW (.str s) p q=q:=_root_.id rfl
@[simp] theorem adn (p:o7->β)(q:β):dW .nilPtr p q=q:=_root_.id rfl
@[simp] theorem ai9 (p:o7->β)(q:β):dW (.ptr i o) p q=q:=_root_.id rfl
@[simp] theorem aap (p:o7->β)(q:β):dW .nilSlice p q=q:=_root_.id rfl
@[simp] theorem aeL (p:o7->β)(q:β):dW (.slice i o l c) p q=q:=_root_.id rfl
@[simp] theorem ado (p:o7->β)(q:β):dW (.sliceU i o l c) p q=q:=_root_.id rfl
@[simp] theorem adp (p:o7->β)(q:β):dW .nilMap p q=q:=_root_.id rfl
@[simp] theorem aia (p:o7->β)(q:β):dW (.map i) p q=q:=_root_.id rfl
@[simp] theorem abf (p:o7->β)(q:β):dW .nilFunc p q=q:=_root_.id rfl
@[simp] theorem agI (p:o7->β)(q:β):dW (.func fn as bs) p q=q:=_root_.id rfl
@[simp] theorem aaq (p:o7->β)(q:β):dW .nilIface p q=q:=_root_.id rfl
@[simp] theorem aeM (p:o7->β)(q:β):dW (.iface i v) p q=q:=_root_.id rfl
@[simp] theorem aib (p:o7->β)(q:β):dW (.agg as) p q=q:=_root_.id rfl
@[simp] theorem aeN (p:o7->β)(q:β):dW (.tuple as) p q=q:=_root_.id rfl
@[simp] theorem aeO (p:o7->β)(q:β):dW .undef p q=q:=_root_.id rfl
@[simp] theorem aic (p:o7->β)(q:β):dW (.nN v) p q=p v:=_root_.id rfl
end
@[simp] theorem amZ (x:o7)(ls:List o7)(env:T o7):G8 (x::ls) env=x:=_root_.id rfl
@[simp] theorem an0 (a x:o7)(ls:List o7)(env:T o7):dx (a::x::ls) env=x:=_root_.id rfl
@[simp] theorem an1 (a b x:o7)(ls:List o7)(env:T o7):dV (a::b::x::ls) env=x:=_root_.id rfl
@[simp] theorem an2 (a b c x:o7)(ls:List o7)(env:T o7):vo (a::b::c::x::ls) env=x:=_root_.id rfl
@[simp] theorem alb (k:Nat)(ls:List o7)(env:T o7):dM k ls env=ls[k]?.getD .undef:=XF k ls
@[simp] theorem alc (v:o7)(ls:List o7)(env:T o7):G6 v ls env=v:=_root_.id rfl
@[simp] theorem aie (g:T o7->o7)(ls:List o7)(env:T o7):K3 g ls env=g env:=_root_.id rfl
@[simp] theorem aqG (l r:T o7)(x:o7):gH (.nd l x r)=x:=_root_.id rfl
@[simp] theorem aqH (g:T o7->o7)(l r:T o7)(x:o7):gL g (.nd l x r)=g l:=_root_.id rfl
@[simp] theorem aqI (g:T o7->o7)(l r:T o7)(x:o7):gR g (.nd l x r)=g r:=_root_.id rfl
@[simp] theorem aqJ (v:o7)(l r:T o7)(x:o7):sH v (.nd l x r)=.nd l v r:=_root_.id rfl
@[simp] theorem aqK (s:o7->T o7->T o7)(v:o7)(l r:T o7)(x:o7):sL s v (.nd l x r)=.nd (s v l) x r:=_root_.id rfl
@[simp] theorem aqL (s:o7->T o7->T o7)(v:o7)(l r:T o7)(x:o7):sR s v (.nd l x r)=.nd l x (s v r):=_root_.id rfl
@[simp] theorem an3 (v:o7)(t:T o7):I6 v t=t:=_root_.id rfl
@[simp] theorem ald (ls:List o7)(env:T o7):evs [] ls env=[]:=_root_.id rfl
@[simp] theorem aif (x:OF)(l:List OF)(ls:List o7)(env:T o7):evs (x::l) ls env=x ls env::evs l ls env:=_root_.id rfl
section
variable {β:Type}(ls:List o7)(env:T o7)(m:Mem)
@[simp] theorem ale (x:OF):Q5 x ls env=some (x ls env):=_root_.id rfl
@[simp] theorem aii (c a b:OF):gy c a b ls env=oH (c ls env) λt=>some (bi t (a ls env) (b ls env)):=_root_.id rfl
@[simp] theorem aij (b:Bool)(k:Bool->Option β):oH (.bool b) k=k b:=_root_.id rfl
@[simp] theorem alf (k:IntKind)(n:Int)(f:IntKind->Int->Option β):sS (.int k n) f=f k n:=_root_.id rfl
@[simp] theorem Mf (s:List UInt8)(f:List UInt8->Option β):mO (.str s) f=f s:=_root_.id rfl
@[simp] theorem TN (i o:Nat)(f:Nat->Nat->Option β):iM (.ptr i o) f=f i o:=_root_.id rfl
@[simp] theorem alg (l:List o7)(f:List o7->Option β):vg (.agg l) f=f l:=_root_.id rfl
@[simp] theorem alh (l:List o7)(f:List o7->Option β):NS (.tuple l) f=f l:=_root_.id rfl
@[simp] theorem ali (i:Nat)(z:Option β)(f:Nat->Option β):vk (.map i) z f=f i:=_root_.id rfl
@[simp] theorem aik (z:Option β)(f:Nat->Option β):vk .nilMap z f=z:=_root_.id rfl
@[simp] theorem alj (z:Option β)(f g:Nat->Nat->Nat->Nat->Option β):lG .nilSlice z f g=z:=_root_.id rfl
@[simp] theorem sj (a b c d:Nat)(z:Option β)(f g:Nat->Nat->Nat->Nat->Option β):lG (.slice a b c d) z f g=f a b c d:=_root_.id rfl
@[simp] theorem pG (a b c d:Nat)(z:Option β)(f g:Nat->Nat->Nat->Nat->Option β):lG (.sliceU a b c d) z f g=g a b c d:=_root_.id rfl
@[simp] theorem alk (fn:Fn)(a b:List o7)(f:Fn->List o7->List o7->Option β):NT (.func fn a b) f=f fn a b:=_root_.id rfl
@[simp] theorem GD (n:Nat)(k:Nat->Option β):NU (n:Int) k=k n:=_root_.id rfl
@[simp] theorem aeP (n:Nat)(k:Nat->Option β):NU (.ofNat n) k=k n:=_root_.id rfl
@[simp] theorem agJ (k:Nat->Option β):NU 0 k=k 0:=_root_.id rfl
@[simp] theorem ail (k:Nat->Option β):NU 1 k=k 1:=_root_.id rfl
@[simp] theorem Mh (k:IntKind)(n:Int)(f:Nat->Option β):jC (.int k n) f=NU n f:=_root_.id rfl
@[simp] theorem GH (k:IntKind):kEq k k=true:=by cases k<;>rfl
@[simp] theorem an4 (f:IB)(g:SB)(x y:OF):O8 f g x y ls env=Ef f g (x ls env) (y ls env):=_root_.id rfl
@[simp] theorem ain (f:IB)(g:SB)(k:IntKind)(a b:Int):Ef f g (.int k a) (.int k b)=f k a b:=by show bi (kEq k k) (f k a b) none=_;rw [GH];rfl
@[simp] theorem aio (f:IB)(g:SB)(a b:List UInt8):Ef f g (.str a) (.str b)=g a b:=_root_.id rfl
@[simp] theorem alm (x y:OF):aev x y ls env=aaE (x ls env) (y ls env):=_root_.id rfl
@[simp] theorem aln (x y:OF):aew x y ls env=aaF (x ls env) (y ls env):=_root_.id rfl
@[simp] theorem alo (a b:Int):cO .i64 a b=some (.int .i64 (rz (a+b))):=_root_.id rfl
@[simp] theorem alp (a b:Int):KU .i64 a b=some (.int .i64 (rz (a-b))):=_root_.id rfl
@[simp] theorem alq (a b:Int):aaD .i64 a b=some (.int .i64 (rz (a*b))):=_root_.id rfl
@[simp] theorem an5 (k:IntKind)(a b:Int):iO k a b=some (.bool (decide (a=b))):=by show some (o7.bool (bJ a b))=_;rw [iR,show (a==b)=decide (a=b) from rfl]
@[simp] theorem an6 (k:IntKind)(a b:Int):NI k a b=some (.bool (!decide (a=b))):=by show some (o7.bool (!bJ a b))=_;rw [iR,show (a==b)=decide (a=b) from rfl]
@[simp] theorem an7 (k:IntKind)(a b:Int):KV k a b=some (.bool (decide (a<b))):=by rw [← kK];rfl
@[simp] theorem an8 (k:IntKind)(a b:Int):QX k a b=some (.bool (decide (a<=b))):=by show some (o7.bool (!uE b a))=_;rw [kK,show (!decide (b<a))=decide (a<=b) from by rw [aaH];simp]
@[simp] theorem an9 (k:IntKind)(a b:Int):NJ k a b=some (.bool (decide (b<a))):=by rw [← kK];rfl
@[simp] theorem ana (k:IntKind)(a b:Int):WU k a b=some (.bool (decide (b<=a))):=by show some (o7.bool (!uE a b))=_;rw [kK,show (!decide (a<b))=decide (b<=a) from by rw [aaH];simp]
theorem Z0 {n:Int}(h:-9223372036854775808<=n)(h':n<9223372036854775808):rz n=n:=by
 cases n with
 | ofNat m=>show bi (Nat.blt m 9223372036854775808) _ _=_;rw [show Nat.blt m 9223372036854775808=true from Y3.mpr (by simp at h';omega)];rfl
 | negSucc m=>show bi (Nat.blt m 9223372036854775808) _ _=_;rw [show Nat.blt m 9223372036854775808=true from Y3.mpr (by omega)];rfl
@[simp] theorem anb (f:IG)(x y:OF):pEq f x y ls env=ob (f (x ls env) (y ls env)) λb=>some (.bool b):=_root_.id rfl
@[simp] theorem anc (f:IG)(x y:OF):pNe f x y ls env=ob (f (x ls env) (y ls env)) λb=>some (.bool (!b)):=_root_.id rfl
@[simp] theorem alr (x:OF):NY x ls env=oH (x ls env) λb=>some (.bool (!b)):=_root_.id rfl
@[simp] theorem als (x:OF):aex x ls env=sS (x ls env) λk n=>some (zR k (· ^^^ ·) (bi k.signed (-1) k.max) n):=_root_.id rfl
@[simp] theorem alu (x:OF):aey x ls env=sS (x ls env) λk n=>some (.int k (vB k (0-n))):=_root_.id rfl
@[simp] theorem aip (k:IntKind)(x:OF):NZ k x ls env=sS (x ls env) λ_ n=>some (.int k (vB k n)):=_root_.id rfl
@[simp] theorem agK (t:TypeId)(x:OF):Fq t x ls env=some (.iface t (x ls env)):=_root_.id rfl
@[simp] theorem aiq (fn:Fn)(a b:List OF):Xj fn a b ls env=some (.func fn (evs a ls env) (evs b ls env)):=_root_.id rfl
@[simp] theorem abg (x:OF):bV x ls env=BM (x ls env):=_root_.id rfl
@[simp] theorem aeQ (i o:Nat):BM (.ptr i o)=some (.ptr i o):=_root_.id rfl
@[simp] theorem adq (f:FuncId)(a b:List o7):BM (.func (.func f) a b)=some (.func (.func f) a b):=_root_.id rfl
@[simp] theorem agL (o:Nat)(x:OF):N9 o x ls env=iM (x ls env) λid off=>some (.ptr id (off+o)):=_root_.id rfl
@[simp] theorem air (off:Nat)(x:OF):Xm off x ls env=vg (x ls env) λcs=>cs[off]?:=by show vg (x ls env) (λcs=>nO off cs)=_;simp
@[simp] theorem ais (off k:Nat)(x:OF):Xn off k x ls env=vg (x ls env) λcs=>ob (takeN k (cs.drop off)) λl=>some (.agg l):=by show vg (x ls env) (λcs=>ob (takeN k (kF off cs)) λl=>some (o7.agg l))=_;simp
@[simp] theorem aeR {α:Type}(l:List α):takeN 0 l=some []:=_root_.id rfl
@[simp] theorem aeS {α:Type}(n:Nat)(x:α)(l:List α):takeN (n+1) (x::l)=ob (takeN n l) λr=>some (x::r):=_root_.id rfl
@[simp] theorem alv (x:OF)(i:Nat):pExt x i ls env=NS (x ls env) λl=>l[i]?:=by show NS (x ls env) (λl=>nO i l)=_;simp
@[simp] theorem alx (x:OF):KZ x ls env=lG (x ls env) (some (.int .i64 0)) (λ_ _ n _=>some (.int .i64 n)) (λ_ _ n _=>some (.int .i64 n)):=_root_.id rfl
@[simp] theorem ait (x:OF):Dh x ls env=mO (x ls env) λs=>some (.int .i64 s.length):=by show mO (x ls env) (λs=>some (o7.int .i64 (.ofNat (len' s))))=_;simp
@[simp] theorem aly (x:OF):aez x ls env=lG (x ls env) (some (.int .i64 0)) (λ_ _ _ c=>some (.int .i64 c)) (λ_ _ _ _=>none):=_root_.id rfl
theorem qL (len i:Nat)(k:Nat->Option β)(h:i<len):idx len (.int .i64 i) k=k i:=by show bi (Nat.blt i len) (k i) none=_;rw [show Nat.blt i len=true from Y3.mpr h];rfl
@[simp] theorem agM (es:Nat)(x i:OF):aU es x i ls env=lG (x ls env) none (λid off len _=>idx len (i ls env) λk=>some (.ptr id (off+k*es)))
  (λid off len _=>idx len (i ls env) λk=>some (.ptr id (off+k*es))):=rfl
@[simp] theorem abh (es n:Nat)(x i:OF):BN es n x i ls env=iM (x ls env) λid off=>idx n (i ls env) λk=>some (.ptr id (off+k*es)):=_root_.id rfl
@[simp] theorem alz (cs:List o7):lay [] ls env cs=some cs:=_root_.id rfl
theorem Yu (p:Nat×Nat×OF)(l:List (Nat×Nat×OF))(cs:List o7):lay (p::l) ls env cs =
  bi (Nat.beq (len' (p.2.2 ls env).cells) p.2.1) (bi (Nat.ble (Nat.add p.1 p.2.1) (len' cs)) (lay l ls env (mM p.1 (p.2.2 ls env).cells cs)) none) none:=rfl
@[simp] theorem agN (z:List o7)(ps:List (Nat×Nat×OF)):bG z ps ls env=ob (lay ps ls env z) λl=>some (.agg l):=_root_.id rfl
def ld1 (b:Option P9)(off:Nat):Option o7:=P6 b λrs n rows=>cell1 rs n rows off
def AO (b:Option P9)(off k:Nat):Option o7:=P6 b λrs n rows=>ob (gK rs n rows off k) λl=>some (.agg l)
def wF (b:Option P9)(off:Nat)(vs:List o7):Option P9:=P6 b λrs n rows=>ob (aT rs n rows off vs) λrows'=>some (.cells rs n rows')
@[simp] theorem agO (a:OF):qP a ls env m=iM (a ls env) λid off=>ld1 (m.get id) off:=_root_.id rfl
@[simp] theorem agP (k:Nat)(a:OF):bX k a ls env m=iM (a ls env) λid off=>AO (m.get id) off k:=_root_.id rfl
@[simp] theorem mg (rs n:Nat)(rows:T (List o7))(k:Nat->Nat->T (List o7)->Option β):P6 (some (.cells rs n rows)) k=k rs n rows:=_root_.id rfl
@[simp] theorem ane (es:List (o7×o7))(k:List (o7×o7)->Option β):QW (some (.map es)) k=k es:=_root_.id rfl
theorem xL {rs n:Nat}{rows:T (List o7)}{i j:Nat}{row:List o7}(a:j<rs)(hi:i<n)(h:rows.get i=some row):cell1 rs n rows (i*rs+j)=row[j]?:=by
 unfold cell1;have b:Nat.div (i*rs+j) rs=i:=by show (i*rs+j) / rs=i;rw [adV,Nat.mul_add_div (by omega),aj6 a];rfl
 have c:Nat.mod (i*rs+j) rs=j:=by show (i*rs+j)%rs=j;rw [adV,amf,ahu a]
 rw [b,c,h,show Nat.blt i n=true from Y3.mpr hi];exact jN _ _
theorem zu {rs n:Nat}{rows:T (List o7)}{i j k:Nat}{row:List o7}(c:j<rs)(hi:i<n)(h:rows.get i=some row)(f:row.length=rs)(g:j+k<=rs):
  gK rs n rows (i*rs+j) k=some ((row.drop j).take k):=by
 unfold gK;have d:Nat.div (i*rs+j) rs=i:=by show (i*rs+j) / rs=i;rw [adV,Nat.mul_add_div (by omega),aj6 c];rfl
 have e:Nat.mod (i*rs+j) rs=j:=by show (i*rs+j)%rs=j;rw [adV,amf,ahu c]
 rw [d,e,h,show Nat.blt i n=true from Y3.mpr hi];simp only [Q9,O0,jE];cases b:Nat.beq j 0 with
 | false=>simp only [U5];exact jQ _ _ (by simp;omega)
 | true=>
  have b:=q9 b;subst b;simp only [Q9];cases a:Nat.beq k rs with
  | true=>have a:=q9 a;subst a;simp [f.symm]
  | false=>simp only [U5,K9];exact jQ _ _ (by omega)
end
theorem div_lt {a b:Nat}(h:a<b):Nat.div a b=0:=aj6 h
theorem mod_lt {a b:Nat}(h:a<b):Nat.mod a b=a:=ahu h
@[simp] theorem aiu (cs:List o7)(off:Nat):ld1 (some (o9 cs)) off=cs[off]?:=by
 show cell1 (len' cs) 1 (.nd .e cs .e) off=_;rw [I9];unfold cell1;by_cases h:off<cs.length;rw [div_lt h,mod_lt h];exact jN _ _;rw [show cs[off]?=none from by simp;omega];by_cases h0:cs.length=0;rw [h0,show Nat.div off 0=0 from Nat.div_zero off,show Nat.mod off 0=off from Nat.mod_zero off];show nO off cs=none;rw [jN];simp;omega;have:1<=Nat.div off cs.length:=(Nat.one_le_div_iff (by omega)).2 (by omega);rw [show Nat.blt (Nat.div off cs.length) 1=false from by
  cases hb:Nat.blt (Nat.div off cs.length) 1 with
  | false=>rfl
  | true=>have:=Y3.mp hb;omega]
theorem eX {cs:List o7}{off k:Nat}(h:off+k<=cs.length)(h0:off<cs.length):AO (some (o9 cs)) off k=some (.agg ((cs.drop off).take k)):=by show ob (gK (len' cs) 1 (.nd .e cs .e) off k) (λl=>some (o7.agg l))=_;have:=zu (rs:=cs.length) (n:=1) (rows:=.nd .e cs .e) (i:=0) (j:=off) (k:=k) (row:=cs) h0 (by omega) rfl rfl h;rw [adR,Z9] at this;rw [I9,this];rfl
theorem iY {cs a:List o7}{off:Nat}(h:off+a.length<=cs.length)(h0:off<cs.length):wF (some (o9 cs)) off a=some (o9 (cs.take off++(a++cs.drop (off+a.length)))):=by
 show ob (aT (len' cs) 1 (.nd .e cs .e) off a) (λb=>some (P9.cells (len' cs) 1 b))=_;have c:Nat.ble (Nat.add off a.length) cs.length=true:=Q6 h;have d:aT cs.length 1 (.nd .e cs .e) off a=some (T.nd .e (mM off a cs) .e):=by unfold aT;rw [div_lt h0,mod_lt h0,I9];show bi (Nat.ble (Nat.add off a.length) cs.length) (some (T.nd .e (mM off a cs) .e)) none=_;rw [c];rfl
 rw [I9,d,mV off a cs (by omega)];show some (P9.cells cs.length 1 _)=some (P9.cells (len' _) 1 _);rw [I9];congr 2;simp;omega
def Mem.Ok (m:Mem):Prop:=T.Ok m.t m.nx
theorem Mem.Ok.new {m:Mem}(h:m.Ok)(b:P9):(m.new b).Ok:=T.Ok.push h b
theorem Mem.Ok.set {m:Mem}(h:m.Ok){i:Nat}(hi:i<m.nx)(b:P9):(m.set i b).Ok:=T.Ok.put h i b hi
theorem AP {m:Mem}(h:m.Ok)(b:P9){i:Nat}(hi:i=m.nx):(m.new b).get i=some b:=by rw [Mem.K6 h,if_pos hi]
theorem GI {m:Mem}(h:m.Ok)(b:P9){i:Nat}(hi:i≠m.nx):(m.new b).get i=m.get i:=by rw [Mem.K6 h,if_neg hi]
theorem D6 {m:Mem}(h:m.Ok)(b:P9){i j:Nat}(a:j<m.nx)(hi:i=j):(m.set j b).get i=some b:=by rw [Mem.aB h a,if_pos hi]
theorem w9 {m:Mem}(h:m.Ok)(b:P9){i j:Nat}(a:j<m.nx)(hi:i≠j):(m.set j b).get i=m.get i:=by rw [Mem.aB h a,if_neg hi]
theorem mh {β:Type}{m:Mem}{id off:Nat}{a:List o7}{k:Mem->Option β}(d:m.lim<=id)(c:N7 a=true):storeAt m id off a k=ob (wF (m.get id) off a) λb=>k (m.set id b):=by
 unfold storeAt;rw [show Nat.blt id m.lim=false from by
  cases hb:Nat.blt id m.lim with
  | false=>rfl
  | true=>have:=Y3.mp hb;omega,c]
 simp only [U5,Q9];unfold wF;match m.get id with
 | some (.cells rs n rows)=>show ob (aT rs n rows off a) _=ob (ob (aT rs n rows off a) _) _;cases aT rs n rows off a<;>rfl
 | some .void | some .dead | some (.map _) | some (.iter ..) | some (.tail _) | some (.loop ..) | some .deferred | some (.siter ..) | some (.buf ..) | some (.mapU _) | none=>rfl
theorem VG (b:Nat)(a x:OF)(cf:F8)(ls:List o7)(env:T o7)(m:Mem):L8 b a x cf ls env m=iM (a ls env) λid off=>
  bi (Nat.beq (x ls env).cells.length b) (storeAt m id off (x ls env).cells λm'=>some [⟨.undef,m'⟩]) none:=by
 show iM (a ls env) (λid off=>bi (Nat.beq (len' (x ls env).cells) b) (storeAt m id off (x ls env).cells λm'=>one .undef m') none)=_;simp only [I9];rfl
@[simp] theorem aeT:N7 []=true:=_root_.id rfl
@[simp] theorem dH (v:o7)(l:List o7):N7 (v::l)=bi (H6 v) (N7 l) false:=_root_.id rfl
section
variable (cf:F8)(ls:List o7)(env:T o7)(m:Mem)(d:o7->T o7->T o7)(k:RC)
@[simp] theorem aiv:u7 cf ls env m=some [⟨env,m,none,[]⟩]:=_root_.id rfl
@[simp] theorem anf (f:PF):K5 f d k cf ls env m=ob (f ls env) λv=>k cf (v::ls) (d v env) m:=_root_.id rfl
@[simp] theorem alA (f:PF):p9 f k cf ls env m=ob (f ls env) λv=>k cf (v::ls) env m:=_root_.id rfl
@[simp] theorem ang (f:RF):rcR f d k cf ls env m=ob (f ls env m) λv=>k cf (v::ls) (d v env) m:=_root_.id rfl
@[simp] theorem alB (f:RF):I5 f k cf ls env m=ob (f ls env m) λv=>k cf (v::ls) env m:=_root_.id rfl
@[simp] theorem agQ:dI m none=m:=_root_.id rfl
@[simp] theorem agR (b:P9):dI m (some b)=m.new b:=_root_.id rfl
@[simp] theorem anh (f:LF):oK f d k cf ls env m=ob (f ls env m.nx) λr=>k cf (r.1::ls) (d r.1 env) (dI m r.2):=_root_.id rfl
@[simp] theorem alC (f:LF):kZ f k cf ls env m=ob (f ls env m.nx) λr=>k cf (r.1::ls) env (dI m r.2):=_root_.id rfl
@[simp] theorem aeU (f:EF):EA f d k cf ls env m=bnd (f cf ls env m) λr=>dW r.v (λx=>some [⟨env,r.m,some x,[]⟩]) (k cf (r.v::ls) (d r.v env) r.m):=_root_.id rfl
@[simp] theorem Mj (f:EF):D9 f k cf ls env m=bnd (f cf ls env m) λr=>dW r.v (λx=>some [⟨env,r.m,some x,[]⟩]) (k cf (r.v::ls) env r.m):=_root_.id rfl
@[simp] theorem agS (z:List o7)(i:Nat):jv z ls env i=some (.ptr i 0,some (o9 z)):=_root_.id rfl
@[simp] theorem alD (x:OF)(i:Nat):UL x ls env i=some (.ptr i 0,some (o9 (x ls env).cells)):=_root_.id rfl
@[simp] theorem agT (i:Nat):Fv ls env i=some (.map i,some (.map [])):=_root_.id rfl
@[simp] theorem Cz (l:List o7):(o7.agg l).cells=l:=_root_.id rfl
@[simp] theorem agU (k:IntKind)(n:Int):(o7.int k n).cells=[.int k n]:=_root_.id rfl
@[simp] theorem aeV (b:Bool):(o7.bool b).cells=[.bool b]:=_root_.id rfl
@[simp] theorem agV (s:List UInt8):(o7.str s).cells=[.str s]:=_root_.id rfl
@[simp] theorem agW (i o:Nat):(o7.ptr i o).cells=[.ptr i o]:=_root_.id rfl
@[simp] theorem agX (i:Nat):(o7.map i).cells=[.map i]:=_root_.id rfl
@[simp] theorem cells_func (f:Fn)(a b:List o7):(o7.func f a b).cells=[.func f a b]:=_root_.id rfl
@[simp] theorem adr (a b c d:Nat):(o7.slice a b c d).cells=[.slice a b c d]:=_root_.id rfl
@[simp] theorem abj (a b c d:Nat):(o7.sliceU a b c d).cells=[.sliceU a b c d]:=_root_.id rfl
@[simp] theorem Yv:o7.nilSlice.cells=[.nilSlice]:=_root_.id rfl
@[simp] theorem aiw (f:FuncId)(as:List OF):E9 f as cf ls env m=cf (.func f) (evs as ls env) m:=_root_.id rfl
@[simp] theorem agY (f:OF)(as:List OF):BQ f as cf ls env m=Xt cf m (evs as ls env) (f ls env):=_root_.id rfl
@[simp] theorem aeW (as:List o7)(f:FuncId)(a b:List o7):Xt cf m as (.func (.func f) a b)=cf (.func f) (a++(as++b)) m:=by show cf (.func f) (aJ a (aJ as b)) m=_;simp
end
@[simp] theorem aix (b:Bool):qh true (.bool b)=b:=by cases b<;>rfl
@[simp] theorem agZ (b:Bool):qh false (.bool b)=!b:=by cases b<;>rfl
section
variable (w:Bool)(x:OF)(ls:List o7)(env:T o7)(m:Mem)
@[simp] theorem aqM (f:PF):gP x w f ls env=bi (qh w (x ls env)) (f ls env) (some .undef):=_root_.id rfl
@[simp] theorem ani (f:RF):QZ x w f ls env m=bi (qh w (x ls env)) (f ls env m) (some .undef):=_root_.id rfl
@[simp] theorem anj (f:LF)(i:Nat):gLk x w f ls env i=bi (qh w (x ls env)) (f ls env i) (some (.undef,none)):=_root_.id rfl
@[simp] theorem aqN (f:EF)(cf:F8):gE x w f cf ls env m=bi (qh w (x ls env)) (f cf ls env m) (some [⟨.undef,m⟩]):=_root_.id rfl
end
@[simp] theorem T.aiy {α:Type}(x:α)(t:T α)(i:Nat):T.rep x 0 t i=t:=_root_.id rfl
attribute [simp] T.FI T.aD T.eD
section
variable (cf:F8)(fu:Nat)(ir:Option Nat)(env:T o7)(m:Mem)(k:List Mk)
@[simp] theorem alE (x:dG):oL x env m k=some [⟨x,env,m,k,none⟩]:=_root_.id rfl
@[simp] theorem ah0:F9 cf fu ir env m k=some [⟨.normal,env,m,k,none⟩]:=_root_.id rfl
@[simp] theorem AQ (r:RC):p8 r cf fu ir env m k=bnd (r cf [] env m) (iQ k):=_root_.id rfl
@[simp] theorem ah1:iQ k ⟨env,m,none,[]⟩=some [⟨.normal,env,m,k,none⟩]:=_root_.id rfl
@[simp] theorem ah2 (n:Nat)(r:DC):iC n r cf fu ir env m k=bnd (r cf m.nx [] env (reserve n m) [reserve n m]) (iQ k):=_root_.id rfl
def abk (b:SC)(cf:F8)(fu:Nat)(ir:Option Nat)(o:Out):Option (List Out):=dG.rec (b cf fu ir o.env o.m o.marks) (λ_=>some [o]) (some [o]) o.x
@[simp] theorem wG (a b:SC):o8 a b cf fu ir env m k=bnd (a cf fu ir env m k) (abk b cf fu ir):=_root_.id rfl
@[simp] theorem ads (b:SC)(p:Option o7):abk b cf fu ir ⟨.normal,env,m,k,p⟩=b cf fu ir env m k:=_root_.id rfl
@[simp] theorem ah3 (b:SC)(i:Nat)(p:Option o7):abk b cf fu ir ⟨.exit i,env,m,k,p⟩=some [⟨.exit i,env,m,k,p⟩]:=_root_.id rfl
@[simp] theorem aiz (b:SC)(p:Option o7):abk b cf fu ir ⟨.ret,env,m,k,p⟩=some [⟨.ret,env,m,k,p⟩]:=_root_.id rfl
@[simp] theorem ah4 (c:OF)(a b:SC):C9 c a b cf fu ir env m k=oH (c [] env) λt=>bi t (a cf fu ir env m k) (b cf fu ir env m k):=_root_.id rfl
def VH (id:Nat)(o:Out):Option (List Out):=dG.rec (some [o]) (λid'=>bi (Nat.beq id id') (oL .normal o.env o.m o.marks) (some [o])) (some [o]) o.x
@[simp] theorem aeX (id:Nat)(a:SC):H8 id a cf fu ir env m k=bnd (a cf fu ir env m k) (VH id):=_root_.id rfl
@[simp] theorem adt (id:Nat)(p:Option o7):VH id ⟨.normal,env,m,k,p⟩=some [⟨.normal,env,m,k,p⟩]:=_root_.id rfl
@[simp] theorem aiA (id:Nat)(p:Option o7):VH id ⟨.ret,env,m,k,p⟩=some [⟨.ret,env,m,k,p⟩]:=_root_.id rfl
@[simp] theorem ah5 (id i:Nat)(p:Option o7):VH id ⟨.exit i,env,m,k,p⟩=bi (Nat.beq id i) (some [⟨.normal,env,m,k,none⟩]) (some [⟨.exit i,env,m,k,p⟩]):=_root_.id rfl
@[simp] theorem ah6 (a:SC):ak a cf fu ir env m k=K8 (λenv m k=>a cf fu ir env m k) fu env m k:=_root_.id rfl
def TP (f:T o7->Mem->List Mk->Option (List Out))(o:Out):Option (List Out):=dG.rec (f o.env o.m o.marks) (λ_=>some [o]) (some [o]) o.x
theorem A8 (a:T o7->Mem->List Mk->Option (List Out))(n:Nat):K8 a (n+1) env m k=bnd (a env m k) (TP (K8 a n)):=rfl
@[simp] theorem AR (f:T o7->Mem->List Mk->Option (List Out))(p:Option o7):TP f ⟨.normal,env,m,k,p⟩=f env m k:=_root_.id rfl
@[simp] theorem aeY (f:T o7->Mem->List Mk->Option (List Out))(i:Nat)(p:Option o7):TP f ⟨.exit i,env,m,k,p⟩=some [⟨.exit i,env,m,k,p⟩]:=_root_.id rfl
@[simp] theorem ah7 (f:T o7->Mem->List Mk->Option (List Out))(p:Option o7):TP f ⟨.ret,env,m,k,p⟩=some [⟨.ret,env,m,k,p⟩]:=_root_.id rfl
@[simp] theorem ah8 (id:Nat):oM id cf fu ir env m k=some [⟨.exit id,env,m,k,none⟩]:=_root_.id rfl
@[simp] theorem aiB:G7 cf fu ir env m k=some [⟨.ret,env,m,k,none⟩]:=_root_.id rfl
end
section
variable (cf:F8)(b:Nat)(ls:List o7)(env:T o7)(m:Mem)(gs:List Mem)(d:o7->T o7->T o7)(k:DC)(c:Nat)
attribute [simp] LU LV
@[simp] theorem aiC:rH cf b ls env m gs=some [⟨env,m,none,[]⟩]:=_root_.id rfl
@[simp] theorem ank (f:PF):Y0 f d k cf b ls env m gs=ob (f ls env) λv=>k cf b (v::ls) (d v env) m gs:=_root_.id rfl
@[simp] theorem anl (f:RF):uZ f c d k cf b ls env m gs=ob (f ls env (hd m gs)) λv=>bi (stable f ls env v c (tl gs)) (k cf b (v::ls) (d v env) m gs) none:=_root_.id rfl
@[simp] theorem anm (f:LF):dcL f c d k cf b ls env m gs=ob (f ls env (b+c)) λr=>bi (isVoid (m.get (b+c))) (bi (mq (b+c) gs) (k cf b (r.1::ls) (d r.1 env) (Le m (b+c) r.2) gs) none) none:=_root_.id rfl
@[simp] theorem ano (f:EF)(a:GF):EC f a d k cf b ls env m gs=Ra (f cf ls env m) λr=>dW r.v (λx=>ob (a b (.undef::ls) (d .undef env) m (m::gs) [env]) λes=>some (vH r.m x es)) (k cf b (r.v::ls) (d r.v env) r.m (r.m::gs)):=_root_.id rfl
section
variable (es:List (T o7))(g:GF)
@[simp] theorem aiD:lH b ls env m gs es=some es:=_root_.id rfl
@[simp] theorem anp:UM b ls env m gs es=none:=_root_.id rfl
@[simp] theorem anq:rA d g b ls env m gs es=g b (.undef::ls) (d .undef env) m gs es:=_root_.id rfl
@[simp] theorem anr:QT d g b ls env m gs es=g b (.undef::ls) (d .undef env) m (m::gs) es:=_root_.id rfl
@[simp] theorem ant (f:PF)(w:Bool):gB f w d g b ls env m gs es=ob (f ls env) λv=>bi (UN w v) (g b (v::ls) (d v env) m gs (WW w (d v) es)) none:=_root_.id rfl
@[simp] theorem anu (f:RF)(c:Nat)(w:Bool):Lf f c w d g b ls env m gs es=ob (f ls env (hd m gs)) λv=>bi (stable f ls env v c (tl gs)) (bi (UN w v) (g b (v::ls) (d v env) m gs (WW w (d v) es)) none) none:=_root_.id rfl
@[simp] theorem anv (f:LF)(c:Nat):ghL f c g b ls env m gs es=ob (f ls env (b+c)) λr=>bi (isVoid (m.get (b+c))) (bi (mq (b+c) gs) (g b (r.1::ls) env (Le m (b+c) r.2) gs es) none) none:=_root_.id rfl
@[simp] theorem aeZ (v:o7):UN false v=true:=_root_.id rfl
@[simp] theorem aiE (w:Bool)(k:IntKind)(n:Int):UN w (.int k n)=true:=by cases w<;>rfl
@[simp] theorem ah9 (f:T o7->T o7):WW false f es=es:=_root_.id rfl
@[simp] theorem aha (f:T o7->T o7)(x:T o7):WW true f [x]=[x,f x]:=_root_.id rfl
@[simp] theorem ahb (x:o7):vH m x []=[]:=_root_.id rfl
@[simp] theorem af0 (x:o7)(y:T o7):vH m x (y::es)=⟨y,m,some x,[]⟩::vH m x es:=_root_.id rfl
end
@[simp] theorem alF (g:Mem):hd m (g::gs)=g:=_root_.id rfl
@[simp] theorem alG (g:Mem):tl (g::gs)=gs:=_root_.id rfl
@[simp] theorem ahc (i:Nat)(x:P9):Le m i (some x)=m.set i x:=_root_.id rfl
@[simp] theorem adu:isVoid (some .void)=true:=_root_.id rfl
@[simp] theorem adv (i:Nat):mq i []=true:=_root_.id rfl
@[simp] theorem abl (i:Nat)(g:Mem):mq i (g::gs)=bi (isVoid (g.get i)) (mq i gs) false:=_root_.id rfl
@[simp] theorem adw (f:RF)(v:o7):stable f ls env v 0 gs=true:=_root_.id rfl
@[simp] theorem adx (f:RF)(v:o7)(n:Nat)(g:Mem):stable f ls env v (n+1) (g::gs)=bi (Option.rec false (λu=>dh 100 u v) (f ls env g)) (stable f ls env v n gs) false:=_root_.id rfl
end
@[simp] theorem Yw (env:T o7):dY [] [] env=some env:=_root_.id rfl
@[simp] theorem WX (j:Option Nat)(a:List (Option Nat))(v:o7)(b:List o7)(env:T o7):dY (j::a) (v::b) env=dY a b (dS j v env):=_root_.id rfl
@[simp] theorem ahd (a:kH)(rs:List qg)(env:T o7)(m:Mem):leave a rs ⟨.ret,env,m,[],none⟩=ob (results rs env m) λl=>some [⟨result l,m⟩]:=_root_.id rfl
@[simp] theorem abm (a:kH)(rs:List qg)(env:T o7)(m:Mem):leave a rs ⟨.normal,env,m,[],none⟩=ob (results rs env m) λl=>some [⟨result l,m⟩]:=_root_.id rfl
@[simp] theorem ady (env:T o7)(m:Mem):results [] env m=some []:=_root_.id rfl
@[simp] theorem results_tmp (j:Nat)(rs:List qg)(env:T o7)(m:Mem):results (.tmp j::rs) env m=ob (env.get j) λv=>ob (results rs env m) λl=>some (v::l):=_root_.id rfl
@[simp] theorem af2:result []=.tuple []:=_root_.id rfl
@[simp] theorem af3 (v:o7):result [v]=v:=_root_.id rfl
@[simp] theorem af4 (v x:o7)(l:List o7):result (v::x::l)=.tuple (v::x::l):=_root_.id rfl
structure Ext (m m':Mem):Prop where
 ok:T.Ok m'.t m'.nx
 nx:m.nx<=m'.nx
 lim:m'.lim=m.lim
 old:∀i,i<m.nx->m'.get i=m.get i
theorem Ext.refl {m:Mem}(h:T.Ok m.t m.nx):Ext m m:=⟨h,aP _,rfl,λ_ _=>rfl⟩
theorem Ext.trans {a b c:Mem}(h:Ext a b)(k:Ext b c):Ext a c:=
 ⟨k.ok,gI h.nx k.nx,k.lim.trans h.lim,λi d=>(k.old i (J3 d h.nx)).trans (h.old i d)⟩
theorem Ext.new {a m:Mem}(h:Ext a m)(b:P9):Ext a (m.new b):=
 ⟨h.ok.push b,aj3 h.nx,h.lim,λi c=>by rw [Mem.K6 h.ok,if_neg (by have:=h.nx;omega)];exact h.old i c⟩
theorem Ext.set {a m:Mem}(h:Ext a m){i:Nat}(hi:i<m.nx)(d:a.nx<=i)(b:P9):Ext a (m.set i b):=
 ⟨h.ok.put _ _ hi,h.nx,h.lim,λj c=>by rw [Mem.aB h.ok hi,if_neg (by omega)];exact h.old j c⟩
theorem Ext.get {a m:Mem}(h:Ext a m){i:Nat}{b:P9}(d:T.Ok a.t a.nx)(c:a.get i=some b):m.get i=some b:=
 (h.old i (Mem.I8 d c)).trans c
def yh (m:Mem)(v:o7)(xs:List Int):Prop:=
 (v=.nilSlice∧xs=[])∨∃p:Nat×Nat,((∃c,v=.slice p.1 p.2 xs.length c)∨∃es,v=.sliceU p.1 p.2 xs.length es)∧p.1<m.nx∧(xs=[]∨∃n rows,m.get p.1=some (.cells 1 n rows)∧p.2+xs.length<=n∧∀i (h:i<xs.length),rows.get (p.2+i)=some [.int .i64 xs[i]])
theorem yh.ext {m m':Mem}(h:Ext m m'){v:o7}{xs:List Int}(a:yh m v xs):yh m' v xs:=by rcases a with a | ⟨id,h1,h2,h3⟩;exact .inl a;refine .inr ⟨id,h1,J3 h2 h.nx,?_⟩;rcases h3 with h3 | ⟨n,rows,h4,h5,h6⟩;exact .inl h3;exact .inr ⟨n,rows,(h.old id.1 h2).trans h4,h5,h6⟩
theorem TQ {n i:Nat}{rows:T (List o7)}{v:o7}(h:i<n)(a:rows.get i=some [v]):ld1 (some (.cells 1 n rows)) i=some v:=by have:=xL (rs:=1) (n:=n) (rows:=rows) (i:=i) (j:=0) (by omega) h a;rw [aml] at this;exact this
theorem aF {i:Nat}(h:i<4611686018427387904):rz ((i:Int)+1)=((i+1:Nat):Int):=by rw [Z0 (by omega) (by omega)];rfl
theorem yh.at {m:Mem}{v:o7}{xs:List Int}(h:yh m v xs){i:Nat}(hi:i<xs.length):
  ∃q:Nat×Nat,lG v none (λid off len _=>idx len (.int .i64 i) λk=>some (o7.ptr id (off+k))) (λid off len _=>idx len (.int .i64 i) λk=>some (o7.ptr id (off+k)))=some (.ptr q.1 q.2)∧q.1<m.nx∧ld1 (m.get q.1) q.2=some (.int .i64 xs[i]):=by
 rcases h with⟨_,rfl⟩ | ⟨id,h1,h2,h3⟩;simp at hi;rcases h3 with rfl | ⟨n,rows,h4,h5,h6⟩;simp at hi;refine⟨(id.1,id.2+i),?_,h2,by rw [h4];exact TQ (by omega) (h6 i hi)⟩;rcases h1 with⟨c,rfl⟩ | ⟨c,rfl⟩;simp only [sj];rw [qL _ _ _ hi];simp only [pG];rw [qL _ _ _ hi]
theorem yh.cells {m:Mem}{v:o7}{xs:List Int}(h:yh m v xs):v.cells=[v]:=by rcases h with⟨rfl,rfl⟩ | ⟨id,⟨c,rfl⟩ | ⟨c,rfl⟩,_⟩<;>rfl
theorem yh.nN {m:Mem}{v:o7}{xs:List Int}(h:yh m v xs){β:Type}(p:o7->β)(q:β):dW v p q=q:=by rcases h with⟨rfl,rfl⟩ | ⟨id,⟨c,rfl⟩ | ⟨c,rfl⟩,_⟩<;>rfl
theorem yh.H6 {m:Mem}{v:o7}{xs:List Int}(h:yh m v xs):Go.AM.H6 v=true:=by rcases h with⟨rfl,rfl⟩ | ⟨id,⟨c,rfl⟩ | ⟨c,rfl⟩,_⟩<;>rfl
theorem yh.len {m:Mem}{v:o7}{xs:List Int}(h:yh m v xs):lG v (some (o7.int .i64 0)) (λ_ _ n _=>some (.int .i64 n)) (λ_ _ n _=>some (.int .i64 n))=some (.int .i64 xs.length):=by rcases h with⟨rfl,rfl⟩ | ⟨id,⟨c,rfl⟩ | ⟨c,rfl⟩,_⟩<;>rfl
theorem yh.lenOf {m:Mem}{v:o7}{xs:List Int}(h:yh m v xs):Go.AM.lenOf v=some xs.length:=by rcases h with⟨rfl,rfl⟩ | ⟨id,⟨c,rfl⟩ | ⟨c,rfl⟩,_⟩<;>rfl
def ints (xs:List Int):List o7:=xs.map (o7.int .i64)
namespace T
variable {α:Type}
theorem abn {t:T α}{n:Nat}(h:Ok t n):∀i (x y:α),i<=n->(t.put i x).put i y=t.put i y:=by
 induction h with
 | e=>intro i x y b;obtain rfl:i=0:=by omega
      rfl
 | @nd l r z n hl hr ihl ihr=>
  intro i x y b;cases i with
  | zero=>rfl
  | succ i=>rw [aD,aD];split;rename_i a;rw [aD,if_pos a,ihl _ _ _ (by omega)];rename_i a;rw [aD,if_neg a,ihr _ _ _ (by omega)]
theorem put_comm {t:T α}{n:Nat}(h:Ok t n):∀i (x y:α),i<n->(t.put n x).put i y=(t.put i y).put n x:=by
 induction h with
 | e=>intro i x y a;omega
 | @nd l r z n hl hr ihl ihr=>
  intro i x y a;cases i with
  | zero=>rw [aD,Oj,aD];split<;>rfl
  | succ i=>
   rw [aD (i:=n),aD (i:=i)];by_cases hn:n%2=0;rw [if_pos hn,aD];by_cases h0:i%2=0;rw [if_pos h0,if_pos h0,aD,if_pos hn];have e:(n+1) / 2=n / 2:=by omega
   rw [e] at hl ihl;have:=ihl (i / 2) x y (by omega);rw [this];rw [if_neg h0,if_neg h0,aD,if_pos hn];rw [if_neg hn,aD];by_cases h0:i%2=0;rw [if_pos h0,if_pos h0,aD,if_neg hn];rw [if_neg h0,if_neg h0,aD,if_neg hn];have:=ihr (i / 2) x y (by omega);rw [this]
end T
theorem AU {α:Type}{p:List α->Prop}(h0:p [])(hs:∀l b,p l->p (l ++ [b])):∀l,p l:=by
 intro l;have:p l.reverse.reverse:=by
  generalize l.reverse=r;induction r with
  | nil=>exact h0
  | cons x r ih=>rw [List.reverse_cons];exact hs _ _ ih
 rwa [List.reverse_reverse] at this
def ext (m:Mem)(l:List P9):Mem:=l.foldl Mem.new m
theorem D7 (m:Mem)(b:P9):m.new b=ext m [b]:=rfl
theorem F6 (m:Mem)(l a:List P9):ext (ext m l) a=ext m (l++a):=by simp [ext]
theorem ext_nil (m:Mem):ext m []=m:=rfl
theorem pI (m:Mem)(l:List P9)(b:P9):ext m (l ++ [b])=(ext m l).new b:=by simp [ext]
@[simp] theorem Pv (m:Mem)(l:List P9):(ext m l).nx=m.nx+l.length:=by
 induction l using AU with
 | h0=>rfl
 | hs l b ih=>rw [pI,Mem.Oo,ih];simp;omega
@[simp] theorem TR (m:Mem)(l:List P9):(ext m l).lim=m.lim:=by
 induction l using AU with
 | h0=>rfl
 | hs l b ih=>rw [pI,Mem.aaQ,ih]
theorem qW {m:Mem}(a:m.Ok)(l:List P9):(ext m l).Ok:=by
 induction l using AU with
 | h0=>exact a
 | hs l b ih=>rw [pI];exact ih.new b
theorem ext_get {m:Mem}(a:m.Ok)(l:List P9)(i:Nat):(ext m l).get i=if i<m.nx then m.get i else l[i-m.nx]?:=by
 induction l using AU with
 | h0=>
  rw [ext_nil];split;rfl;cases h:m.get i with
  | none=>simp
  | some b=>have:=Mem.I8 a h;omega
 | hs l b ih=>rw [pI,Mem.K6 (qW a l),ih,Pv];by_cases h1:i<m.nx;rw [if_neg (by omega),if_pos h1,if_pos h1];rw [if_neg h1,if_neg h1];by_cases h2:i=m.nx+l.length;rw [if_pos h2,aaC (by omega),show i-m.nx-l.length=0 from by omega];rfl;rw [if_neg h2];by_cases h3:i-m.nx<l.length;rw [aan h3];rw [afn (by omega),afn (by simp;omega)]
theorem bR {m:Mem}(a:m.Ok)(l:List P9)(c:Nat):(ext m l).get (m.nx+c)=l[c]?:=by rw [ext_get a,if_neg (by omega),show m.nx+c-m.nx=c from by omega]
theorem F7 {m:Mem}(a:m.Ok)(l:List P9):(ext m l).get m.nx=l[0]?:=bR a l 0
theorem bg {m:Mem}(a:m.Ok)(l:List P9){i:Nat}(h:i<m.nx):(ext m l).get i=m.get i:=by rw [ext_get a,if_pos h]
theorem H7 {m:Mem}(a:m.Ok)(l:List P9):Ext m (ext m l):=⟨qW a l,by simp,by simp,λi b=>bg a l b⟩
theorem Mem.EK {m:Mem}(c:m.Ok)(a b:P9):(m.new a).set m.nx b=m.new b:=by show (⟨(m.t.put m.nx a).put m.nx b,_,_⟩:Mem)=_;rw [T.abn c _ _ _ (aP _)];rfl
theorem Mem.Pw {m:Mem}(c:m.Ok)(a b:P9){i:Nat}(h:i<m.nx):(m.new a).set i b=(m.set i b).new a:=by show (⟨(m.t.put m.nx a).put i b,_,_⟩:Mem)=⟨(m.t.put i b).put m.nx a,_,_⟩;rw [T.put_comm c _ _ _ h];rfl
theorem qM {m:Mem}(d:m.Ok)(l:List P9)(c:Nat)(b:P9)(h:c<l.length):(ext m l).set (m.nx+c) b=ext m (l.set c b):=by
 induction l using AU with
 | h0=>simp at h
 | hs l a ih=>
  rw [pI];by_cases h1:c<l.length;rw [Mem.Pw (qW d l) _ _ (by rw [Pv];omega),ih h1,List.set_append_left _ _ h1,pI];have:c=l.length:=by simp at h;omega
  subst this;have e:m.nx+l.length=(ext m l).nx:=by simp
  rw [e,Mem.EK (qW d l),List.set_append_right _ _ (aP _)];simp [pI]
theorem AV {m:Mem}(a:m.Ok)(l:List P9)(b:P9)(h:0<l.length):(ext m l).set m.nx b=ext m (l.set 0 b):=qM a l 0 b h
end
end Go.AM
namespace Go.AM
open Go
theorem dJ {α:Type}(a b:Nat)(x y:α):bi (Nat.beq a b) x y=if a=b then x else y:=vU a b x y
theorem Kc {α:Type}(a b:Nat)(x y:α):bi (Nat.ble a b) x y=if a<=b then x else y:=by
 cases h:Nat.ble a b with
 | true=>rw [if_pos (U9 h)];rfl
 | false=>rw [if_neg (λc=>by rw [Q6 c] at h;cases h)];rfl
theorem VI {α:Type}(a b:Nat)(x y:α):bi (Nat.blt a b) x y=if a<b then x else y:=Kc (a+1) b x y
theorem Mq (ls:List o7)(env:T o7)(p:Nat×Nat×OF)(l:List (Nat×Nat×OF))(cs:List o7):lay (p::l) ls env cs =
  if (p.2.2 ls env).cells.length=p.2.1 then if p.1+p.2.1<=cs.length then lay l ls env (cs.take p.1++((p.2.2 ls env).cells++cs.drop (p.1+(p.2.2 ls env).cells.length))) else none else none:=by
 rw [Yu,dJ,I9,I9];split;rename_i h;show bi (Nat.ble (p.1+p.2.1) cs.length) _ _=_;rw [Kc];split;rename_i a;rw [mV _ _ _ (by omega)];rfl;rfl
theorem VJ (b:Nat)(a x:OF)(cf:F8)(ls:List o7)(env:T o7)(m:Mem):L8 b a x cf ls env m=iM (a ls env) λid off=>
  if (x ls env).cells.length=b then storeAt m id off (x ls env).cells λm'=>some [⟨.undef,m'⟩] else none:=by
 rw [VG];simp only [dJ]
theorem CF {β:Type}{m:Mem}(d:m.Ok)(e:m.lim<=m.nx)(l:List P9)(c off:Nat)(a:List o7)(k:Mem->Option β):
  storeAt (ext m l) (m.nx+c) off a k=bi (N7 a) (ob (wF l[c]? off a) λb=>k (ext m (l.set c b))) none:=by
 cases h1:N7 a with
 | false=>unfold storeAt;rw [h1];cases Nat.blt (m.nx+c) (ext m l).lim<;>rfl
 | true=>rw [mh (by rw [TR];omega) h1,bR d,Q9];by_cases hc:c<l.length;congr 1;funext b;rw [qM d _ _ _ hc];rw [afn (by omega)];rfl
theorem wH {β:Type}{m:Mem}(d:m.Ok)(c:m.lim<=m.nx)(l:List P9)(off:Nat)(a:List o7)(k:Mem->Option β):
  storeAt (ext m l) m.nx off a k=bi (N7 a) (ob (wF l[0]? off a) λb=>k (ext m (l.set 0 b))) none:=CF d c l 0 off a k
@[simp] theorem abo (j:Nat)(k:Nat)(rs:List qg)(env:T o7)(m:Mem):results (.cell j (some k)::rs) env m=ob (ob (env.get j) λp=>iM p λid off=>AO (m.get id) off k) λv=>ob (results rs env m) λl=>some (v::l):=id rfl
@[simp] theorem aar (j:Nat)(rs:List qg)(env:T o7)(m:Mem):results (.cell j none::rs) env m=ob (ob (env.get j) λp=>iM p λid off=>ld1 (m.get id) off) λv=>ob (results rs env m) λl=>some (v::l):=id rfl
end Go.AM
namespace Go.AM
open Go
section
variable {α β:Type}
@[congr] theorem aiF {b b':Bool}{x a y y':α}(hb:b=b')(c:b'=true->x=a)(d:b'=false->y=y'):bi b x y=bi b' a y':=by
 subst hb;cases b with
 | true=>exact c rfl
 | false=>exact d rfl
@[simp] theorem alH (b:Bool)(x:α):bi b x x=x:=by cases b<;>rfl
@[simp] theorem anw (b:Bool)(x y:α):bi (!b) x y=bi b y x:=by cases b<;>rfl
theorem af5 (b:Bool)(x y:α)(k:α->Option β):ob (bi b (some x) (some y)) k=k (bi b x y):=by cases b<;>rfl
theorem abp (b:Bool)(x y:α)(k:α->Option (List β)):bnd (bi b (some [x]) (some [y])) k=k (bi b x y):=by cases b<;>rfl
theorem Yx (b:Bool)(x y:α)(k:α->Option β):Ra (bi b (some [x]) (some [y])) k=k (bi b x y):=by cases b<;>rfl
end
@[simp] theorem adz (b c:Bool):bi b (o7.bool c) (o7.bool false)=.bool (b&&c):=by cases b<;>rfl
@[simp] theorem af6 (b c:Bool):bi b (o7.bool true) (o7.bool c)=.bool (b||c):=by cases b<;>rfl
@[simp] theorem alI {β:Type}(b:Bool)(v w:o7)(p:o7->β)(q:β):dW (bi b v w) p q=bi b (dW v p q) (dW w p q):=by cases b<;>rfl
end Go.AM
namespace Go.AM
open Go
section
variable {α:Type}(a b c:Bool)(x y z:α)
@[simp] theorem alJ:bi b (bi b x y) z=bi b x z:=by cases b<;>rfl
@[simp] theorem aiG:bi b x (bi b y z)=bi b x z:=by cases b<;>rfl
@[simp] theorem alK:bi (b&&c) (bi b x y) z=bi (b&&c) x z:=by cases b<;>cases c<;>rfl
@[simp] theorem alL:bi (b&&c) (bi c x y) z=bi (b&&c) x z:=by cases b<;>cases c<;>rfl
@[simp] theorem anx:bi (b||c) x (bi b y z)=bi (b||c) x z:=by cases b<;>cases c<;>rfl
@[simp] theorem anz:bi (b||c) x (bi c y z)=bi (b||c) x z:=by cases b<;>cases c<;>rfl
end
end Go.AM
namespace Go.AM
open Go
@[simp] theorem aqO (b:Bool)(f a:T o7)(m m':Mem)(p d:Option o7)(k c:List Mk):bi b (⟨f,m,p,k⟩:EM) ⟨a,m',d,c⟩=⟨bi b f a,bi b m m',bi b p d,bi b k c⟩:=by cases b<;>rfl
@[simp] theorem aqP (b:Bool)(l a r c:T o7)(x d:o7):bi b (T.nd l x r) (T.nd a d c)=.nd (bi b l a) (bi b x d) (bi b r c):=by cases b<;>rfl
@[simp] theorem anA (b:Bool)(v w:o7)(m m':Mem):bi b (⟨v,m⟩:VM) ⟨w,m'⟩=⟨bi b v w,bi b m m'⟩:=by cases b<;>rfl
end Go.AM
namespace Go.AM
open Go
@[simp] theorem ahe (w:Bool):qh w .undef=false:=id rfl
end Go.AM
namespace Go.AM
open Go
@[simp] theorem VK (c:List PK)(a b:List o7):sW c (.agg a) (.agg b)=dz c a b:=id rfl
@[simp] theorem ahf:dz [] [] []=some true:=id rfl
@[simp] theorem VL (k:PK)(c:List PK)(x y:o7)(a b:List o7):dz (k::c) (x::a) (y::b)=ob (IE k x y) λr=>bi r (dz c a b) (some false):=id rfl
@[simp] theorem anB:IE .i=aK:=id rfl
@[simp] theorem aiH (k:IntKind)(a b:Int):aK (.int k a) (.int k b)=some (decide (a=b)):=by show bi (kEq k k) (some (bJ a b)) none=_;rw [GH,iR,show (a==b)=decide (a=b) from rfl];rfl
@[simp] theorem adA (b c:Bool):bi b (some c) (some false)=some (b&&c):=by cases b<;>rfl
theorem su (n:Nat)(k:IntKind)(i:Int):dh (n+1) (.int k i) (.int k i)=true:=by show bi (kEq k k) (bJ i i) false=true;rw [GH,iR];simp
theorem xM (f:o7->o7->Bool)(x y:o7)(a b:List o7):yc f (x::a) (y::b)=bi (f x y) (yc f a b) false:=rfl
theorem Yy (f:o7->o7->Bool):yc f [] []=true:=rfl
theorem VN (n:Nat)(a b:List o7):dh (n+1) (.agg a) (.agg b)=yc (dh n) a b:=rfl
end Go.AM
namespace Go.AM
open Go
section
variable {α β:Type}
@[congr] theorem aqQ {o a:Option α}{k:α->Option β}(h:o=a):ob o k=ob a k:=by rw [h]
@[congr] theorem anC {o a:Option (List α)}{k:α->Option (List β)}(h:o=a):bnd o k=bnd a k:=by rw [h]
@[congr] theorem alM {o a:Option (List α)}{k:α->Option β}(h:o=a):Ra o k=Ra a k:=by rw [h]
@[congr] theorem alN {v v':o7}{p:o7->β}{q:β}(h:v=v'):dW v p q=dW v' p q:=by rw [h]
@[congr] theorem alO {v v':o7}{k:Nat->Nat->Option β}(h:v=v'):iM v k=iM v' k:=by rw [h]
@[congr] theorem alP {v v':o7}{k:IntKind->Int->Option β}(h:v=v'):sS v k=sS v' k:=by rw [h]
@[congr] theorem aiI {v v':o7}{k:Bool->Option β}(h:v=v'):oH v k=oH v' k:=by rw [h]
@[congr] theorem alQ {v v':o7}{k:List o7->Option β}(h:v=v'):vg v k=vg v' k:=by rw [h]
@[congr] theorem alR {v v':o7}{k:List o7->Option β}(h:v=v'):NS v k=NS v' k:=by rw [h]
@[congr] theorem alS {v v':o7}{k:List UInt8->Option β}(h:v=v'):mO v k=mO v' k:=by rw [h]
@[congr] theorem alT {v v':o7}{k:Nat->Option β}(h:v=v'):jC v k=jC v' k:=by rw [h]
end
end Go.AM
namespace Go.AM
open Go
section
variable {α β:Type}
@[simp high] theorem ahg (a:α)(k:α->Option β):ob (some a) k=k a:=id rfl
@[simp high] theorem ahh (k:α->Option β):ob none k=none:=id rfl
@[simp high] theorem ahi (x y:α):bi true x y=x:=id rfl
@[simp high] theorem af7 (x y:α):bi false x y=y:=id rfl
@[simp high] theorem alU (i:Nat):(T.e:T α).get i=none:=id rfl
@[simp high] theorem af8 (l:T α)(x:α)(r:T α):(T.nd l x r).get 0=some x:=id rfl
@[simp high] theorem alV (i:Nat)(x:α):(T.e:T α).put i x=.nd .e x .e:=id rfl
@[simp high] theorem af9 (l:T α)(y:α)(r:T α)(x:α):(T.nd l y r).put 0 x=.nd l x r:=id rfl
@[simp high] theorem afa (x:α)(n:Nat)(t:T α)(i:Nat):T.rep x (n+1) t i=T.rep x n (t.put i x) (i+1):=id rfl
@[simp high] theorem Yz (m:Mem):reserve 0 m=m:=id rfl
@[simp high] theorem YA (n:Nat)(m:Mem):reserve (n+1) m=reserve n (m.new .void):=id rfl
@[simp high] theorem afb (m:Mem)(b:P9):(m.new b).nx=m.nx+1:=id rfl
@[simp high] theorem ahj (m:Mem)(b:P9):(m.new b).lim=m.lim:=id rfl
@[simp high] theorem afc (m:Mem)(i:Nat)(b:P9):(m.set i b).nx=m.nx:=id rfl
@[simp high] theorem ahk (m:Mem)(i:Nat)(b:P9):(m.set i b).lim=m.lim:=id rfl
end
end Go.AM
namespace Go.AM
open Go
@[simp] theorem adB:dh 100 .undef .undef=true:=id rfl
end Go.AM
namespace Go.AM
open Go
end Go.AM
namespace Go.AM
open Go
theorem Px {β:Type}{es:Nat}{cells:List o7}(h:cells.length=es)(k:P9->Option β):xw es 1 cells k=k (o9 cells):=by show ob (ob (takeN es cells) λr=>ob (rowsOf es 0 (kF es cells)) λa=>some (r::a)) (λb=>k (.cells es 1 (T.ofList b)))=_;rw [jQ _ _ (by omega),O0,jE,abC (by omega),L6 (by omega)];show k (.cells es 1 (.nd .e cells .e))=k (.cells (len' cells) 1 (.nd .e cells .e));rw [I9,h]
theorem iZ (es:Nat)(zero:List o7)(ps:List (Nat×Nat×OF))(ls:List o7)(env:T o7)(nid:Nat)(e:zero.length=es):P7 es 1 zero ps ls env nid=ob (lay ps ls env zero) λcells=>if cells.length=es then some (.slice nid 0 1 1,some (o9 cells)) else none:=by
 show ob (lay ps ls env (aJ zero [])) (λcells=>xw es 1 cells λb=>some (o7.slice nid 0 1 1,some b))=_;rw [P8,abI];congr 1;funext cells;split;rename_i h;rw [Px h];rename_i h;show ob (ob (takeN es cells) λr=>ob (rowsOf es 0 (kF es cells)) λa=>some (r::a)) _=none;cases ht:takeN es cells with
 | none=>rfl
 | some r=>
  obtain⟨c,d⟩:=lQ _ _ _ ht;rw [O0,jE];cases hd:cells.drop es with
  | nil=>have:=List.drop_eq_nil_iff.1 hd;omega
  | cons x xs=>rfl
@[simp] theorem aiJ {β:Type}(len:Nat)(k:Nat->Option β):idx len (.int .i64 0) k=if 0<len then k 0 else none:=by show bi (Nat.blt 0 len) (k 0) none=_;rw [VI]
noncomputable def Py (b:Option P9)(k:o7)(es:List (o7×o7)):Option P9:=match b with
 | some (.mapU _)=>mO k λ_=>some (.mapU es)
 | _=>some (.map es)
@[simp] theorem aiK (es:List (o7×o7))(k:o7)(a:List (o7×o7)):Py (some (.map es)) k a=some (.map a):=rfl
@[simp] theorem ahl (es:List (o7×o7))(s:List UInt8)(a:List (o7×o7)):Py (some (.mapU es)) (.str s) a=some (.mapU a):=rfl
theorem VO (m:Mem)(id:Nat)(k:o7)(es:List (o7×o7)):oI m id k es=ob (Py (m.get id) k es) λb=>some [⟨.undef,m.set id b⟩]:=by
 unfold oI Py;match m.get id with
 | some (.mapU _)=>cases k<;>rfl
 | some (.map _) | some .void | some .dead | some (.cells ..) | some (.iter ..) | some (.tail _) | some (.loop ..) | some .deferred | some (.siter ..) | some (.buf ..) | none=>rfl
noncomputable def msB (b:Option P9)(f:IG)(n:Nat)(k x:o7):Option P9:=
 KT b λes=>ob (V9 f n k es) λr=>Option.rec (Py b k (es ++ [(k,x)])) (λp=>ob es[p.1]? λe=>bi (Nat.beq e.1.cells.length n) (Py b k (eY es k x p.1)) none) r
theorem GJ (f:IG)(n:Nat)(mp k x:OF)(cf:F8)(ls:List o7)(env:T o7)(m:Mem):T9 f n mp k x cf ls env m=vk (mp ls env) none λid=>bi (Nat.blt id m.lim) none (ob (msB (m.get id) f n (k ls env) (x ls env)) λb=>some [⟨.undef,m.set id b⟩]):=by
 show vk (mp ls env) none (λid=>bi (Nat.blt id m.lim) none _)=_;congr 1;funext id;congr 1;unfold msB;have d:=VO m id;have c:∀a,(ob (V9 f n (k ls env) a) λr=>(Option.rec (oI m id (k ls env) (aJ a [(k ls env,x ls env)])) (λp=>ob (nO p.1 a) λe=>bi (Nat.beq (len' e.1.cells) n) (oI m id (k ls env) (eY a (k ls env) (x ls env) p.1)) none) r:dU)) =
   ob (ob (V9 f n (k ls env) a) λr=>Option.rec (Py (m.get id) (k ls env) (a ++ [(k ls env,x ls env)])) (λp=>ob a[p.1]? λe=>bi (Nat.beq e.1.cells.length n) (Py (m.get id) (k ls env) (eY a (k ls env) (x ls env) p.1)) none) r) λb=>some [⟨.undef,m.set id b⟩]:=λa=>by
  cases V9 f n (k ls env) a with
  | none=>rfl
  | some r=>
   cases r with
   | none=>simp only [O0];rw [d,P8]
   | some p=>
    simp only [O0];rw [jN];cases a[p.1]? with
    | none=>rfl
    | some e=>
     simp only [O0,I9];cases Nat.beq e.1.cells.length n with
     | true=>simp only [Q9];rw [d]
     | false=>rfl
 match hb:m.get id with
 | some (.map a)=>rw [hb] at c;exact c a
 | some (.mapU a)=>rw [hb] at c;exact c a
 | some .void | some .dead | some (.cells ..) | some (.iter ..) | some (.tail _) | some (.loop ..) | some .deferred | some (.siter ..) | some (.buf ..) | none=>rfl
@[congr] theorem alX {β:Type}{v v':o7}{z:Option β}{k:Nat->Option β}(h:v=v'):vk v z k=vk v' z k:=by rw [h]
theorem Mr (f:IG)(n:Nat)(k:o7):V9 f n k []=bi (Nat.beq (len' k.cells) n) (ob (f k k) λ_=>some none) none:=rfl
theorem Jj (f:IG)(n:Nat)(k:o7)(e:o7×o7)(es:List (o7×o7)):V9 f n k (e::es)=bi (Nat.beq (len' k.cells) n) (findKey f k (e::es) 0) none:=rfl
@[simp] theorem afd (f:OF)(b:List (Option Nat))(a d:V8)(cf:F8)(fu:Nat)(env:T o7)(m:Mem)(k:List Mk):Tm f b a d cf fu none env m k=Rb cf (f [] env) b a d env (m.new .deferred) (.c m.nx::k):=id rfl
@[simp] theorem ahm (cf:F8)(f:FuncId)(a b:List o7)(params:List (Option Nat))(assign body:V8)(env:T o7)(m:Mem)(k:List Mk):Rb cf (.func (.func f) a b) params assign body env m k =
  bnd (cf (.func f) (a++(.func (.yield m.nx) [] []::b)) (m.new (.loop .ready none env params assign body))) λr=>dW r.v (λ_=>none) <|
   qy (r.m.get m.nx) λst pend _ _ _ _=>match st with
    | .busy=>none
    | _=>match pend with
     | none=>oL .normal env (r.m.set m.nx .dead) k
     | some x=>oL x env (r.m.set m.nx .dead) k:=by
 show bnd (cf (.func f) (aJ a (aJ [.func (.yield m.nx) [] []] b)) _) _=_;rw [P8,P8];rfl
@[simp] theorem aiL {β:Type}(c:LoopState)(a:Option dG)(env:T o7)(ps:List (Option Nat))(b bd:V8)(f:LoopState->Option dG->T o7->List (Option Nat)->V8->V8->Option β):qy (some (.loop c a env ps b bd)) f=f c a env ps b bd:=id rfl
end Go.AM
namespace Go.AM
open Go
theorem pJ {β:Type}{m:Mem}{id:Nat}(c:m.lim<=id)(off:Nat)(a:List o7)(k:Mem->Option β):storeAt m id off a k=bi (N7 a) (ob (wF (m.get id) off a) λb=>k (m.set id b)) none:=by
 cases h1:N7 a with
 | true=>rw [mh c h1];rfl
 | false=>unfold storeAt;rw [h1];cases Nat.blt id m.lim<;>rfl
def Mt (P:Program):List Field->Nat->Nat->Bool
 | [],o,n=>Nat.beq o n
 | f::fs,o,n=>Nat.beq f.offset o&&Mt P fs (o+P.cellsOf f.type) n
section
variable {P:Program}{G:Mem}{hp:Array Obj}
theorem Mem.wI (m:Mem)(i:Nat):m.shut.get i=m.get i:=rfl
theorem RM.push {ι:K7}{m:Mem}(h:RM P G ι m hp)(s:m.lim=m.nx){b:P9}{l:Loc}(p:dO b=false)(hs:U8 b=true->l.spot=none)
  (hb:dN P (ι.upd m.nx l) ((m.new b).nm (ι.upd m.nx l)) hp l b):RM P G (ι.upd m.nx l) (m.new b).shut hp:=by
 have c:∀i,(m.new b).shut.get i=if i=m.nx then some b else m.get i:=λi=>Mem.K6 h.ok b i
 have o:∀i x,m.get i=some x->i≠m.nx:=λi x a e=>by have:=Mem.I8 h.ok a;omega
 have d:∀j,m.has j->ι.upd m.nx l j=ι j:=λj ⟨x,a,_⟩=>ι.upd_ne l (o j x a);have g:∀i,m.has i->(m.new b).shut.has i:=λi ⟨x,a,p⟩=>⟨x,by rw [c,if_neg (o i x a)];exact a,p⟩;have r:G.nx<=m.nx:=gI h.glim h.limn;refine⟨h.ok.push b,λi x a=>?_,λi x f a _=>?_,?_,aP _,h.gle,λi f=>?_,λi f=>g i (h.ghas i f),λi f=>?_,λi x a k=>?_,h.gsz⟩;rw [c] at a;split at a;rename_i e;subst e;cases a;rw [ι.U3];exact hb;rename_i e;rw [ι.upd_ne l e];exact (h.blk i x a).mono (n:=m.nm ι) d (Mem.aH g d) λ_=>rfl;have q:=Mem.I8 (m:=(m.new b).shut) (h.ok.push b) a;have f:(m.new b).shut.nx<=i:=f;omega;show G.nx<=m.nx+1;omega;rw [c,if_neg (by omega)];exact h.base i f;rw [d i (h.ghas i f)];exact h.glob i f;rw [c] at a;split at a;rename_i e;subst e;cases a;rw [ι.U3];exact hs k;rename_i e;rw [ι.upd_ne l e];exact h.spot i x a k
structure Lifts (P:Program)(G:Mem)(hp:Array Obj)(ι:K7)(m:Mem)(ι':K7)(m':Mem):Prop where
 rm:RM P G ι' m' hp
 lim:m'.lim=m'.nx
 get:∀i b,m.get i=some b->m'.get i=some b
 ext:∀i,m.has i->ι' i=ι i
theorem Lifts.refl {ι:K7}{m:Mem}(h:RM P G ι m hp)(a:m.lim=m.nx):Lifts P G hp ι m ι m:=⟨h,a,λ_ _ h=>h,λ_ _=>rfl⟩
theorem Lifts.has {ι ι':K7}{m m':Mem}(h:Lifts P G hp ι m ι' m')(i:Nat)(hi:m.has i):m'.has i:=by obtain⟨x,a,b⟩:=hi;exact⟨x,h.get i x a,b⟩
theorem Lifts.trans {a ι2 c:K7}{m1 e m3:Mem}(h:Lifts P G hp a m1 ι2 e)(k:Lifts P G hp ι2 e c m3):Lifts P G hp a m1 c m3:=
 ⟨k.rm,k.lim,λi b f=>k.get i b (h.get i b f),λi d=>(k.ext i (h.has i d)).trans (h.ext i d)⟩
theorem Lifts.u6 {ι ι':K7}{m m':Mem}(h:Lifts P G hp ι m ι' m'){vs:List o7}(a:bB (m.nm ι) vs):z8 ι' vs=z8 ι vs:=gD (n:=m.nm ι) h.ext vs a
theorem Lifts.lt {ι ι':K7}{m m':Mem}(h:Lifts P G hp ι m ι' m'){vs:List o7}(a:bB (m.nm ι) vs):bB (m'.nm ι') vs:=eF (Mem.aH h.has h.ext) vs a
theorem Lifts.push {ι:K7}{m:Mem}(h:RM P G ι m hp)(d:m.lim=m.nx){b:P9}{l:Loc}(f:dO b=false)(hs:U8 b=true->l.spot=none)
  (hb:dN P (ι.upd m.nx l) ((m.new b).nm (ι.upd m.nx l)) hp l b):Lifts P G hp ι m (ι.upd m.nx l) (m.new b).shut:=by
 have c:∀i x,m.get i=some x->i≠m.nx:=λi x a e=>by have:=Mem.I8 h.ok a;omega
 exact⟨h.push d f hs hb,rfl,λi x a=>by rw [Mem.wI,Mem.K6 h.ok,if_neg (c i x a)];exact a,λj ⟨x,a,_⟩=>ι.upd_ne l (c j x a)⟩
def Gets (P:Program)(G:Mem)(hp:Array Obj)(ι:K7)(m:Mem)(cs:List Value)(S:Mem->List o7->Prop):Prop:=
 ∃ι' m' vs,Lifts P G hp ι m ι' m'∧z8 ι' vs=cs∧bB (m'.nm ι') vs∧S m' vs
variable {H:Type}{enc:TypeId×Value->H}{w:World}{held:Bool}
end
end Go.AM
