/- A part of an evaluator for the model, proved sound: what it answers holds of the model; it speaks of every program, no condition. -/
import Derived.Test.YtfddpcckppibjaaGreatDoorPA3
import Derived.RecoverIn
import Derived.Deep.Slices
set_option linter.all false
namespace Go.AM
open Go
theorem qy {α:Type}{f:α->Option Nat}:∀{l:List α},(l.filterMap f).Nodup->∀{i j:Nat} {x y:α} {t:Nat},l[i]?=some x->l[j]?=some y->f x=some t->f y=some t->i=j
 | [],_,i,j,x,y,t,hi,_,_,_=>by simp at hi
 | z::l,h,i,j,x,y,t,hi,hj,hx,hy=>by
  have hmem:∀{k:Nat} {u:α},l[k]?=some u->f u=some t->t∈l.filterMap f:=λhk hu=>List.mem_filterMap.2 ⟨_,Xl hk,hu⟩;cases hz:f z with
  | none=>
   rw [List.filterMap_cons_none hz] at h;cases i with
   | zero=>simp at hi;subst hi;rw [hz] at hx;cases hx
   | succ i=>
    cases j with
    | zero=>simp at hj;subst hj;rw [hz] at hy;cases hy
    | succ j=>exact congrArg Nat.succ (qy h (i:=i) (j:=j) (by simpa using hi) (by simpa using hj) hx hy)
  | some u=>
   rw [List.filterMap_cons_some hz] at h;obtain⟨h1,h2⟩:=ad1.1 h;cases i with
   | zero=>
    simp at hi;subst hi;rw [hz] at hx;cases hx;cases j with
    | zero=>rfl
    | succ j=>exact absurd (hmem (by simpa using hj) hy) h1
   | succ i=>
    cases j with
    | zero=>simp at hj;subst hj;rw [hz] at hy;cases hy;exact absurd (hmem (by simpa using hi) hx) h1
    | succ j=>exact congrArg Nat.succ (qy h2 (i:=i) (j:=j) (by simpa using hi) (by simpa using hj) hx hy)
section
variable {P:Program}{G:Mem}{slots:List Nat}{nt:Nat}{cf:D7}{ops:Array Oper}
theorem JI {α:Type}(l:List α)(p k:Nat)(hp:p<=l.length)(a:k<p):(l.take p).reverse[k]?=l[p-1-k]?:=by rw [List.getElem?_reverse (by simp;omega),ags,aed,if_pos (by omega)];congr 1;omega
theorem Zz {b:List Nat}{X:Nat->Nat×Inst}{a:List Inst}(c:a.length=b.length)(h:∀p x,a[p]?=some x->(X p).2=x):∀p,p<=b.length->
  zw b X p=(((((b.zip a).take p).filter λy=>R3 y.2).map (·.1)).reverse):=by
 intro p;induction p with
 | zero=>intro _;rfl
 | succ p ih=>
  intro i;have d:p<(b.zip a).length:=by rw [List.length_zip];omega
  have e:(b.zip a)[p]=(b[p]'(by omega),a[p]'(by omega)):=List.getElem_zip ..;rw [aa1 d,List.filter_append,abK,List.reverse_append,← ih (by omega)];have f:(X p).2=a[p]'(by omega):=h p _ (q9 (by omega));have g:b.getD p 0=b[p]'(by omega):=by rw [Y7,q9 (by omega)];rfl
  simp only [zw,e,f,g];cases he:R3 (a[p]'(by omega))<;>simp [he]
theorem Ev {α:Type}(f:α->Bool)(l:List α){p q:Nat}(d:p<q)(hp:p<l.length)(c:f l[p]=true):((l.take p).filter f).length<((l.take q).filter f).length:=by
 have b:l.take (p+1)=(l.take q).take (p+1):=by rw [List.take_take];congr 1;omega
 have a:((l.take (p+1)).filter f).length<=((l.take q).filter f).length:=by rw [b];exact ((List.take_sublist _ _).filter f).length_le
 rw [aa1 hp,List.filter_append] at a;simp [c] at a;omega
theorem Wl {n:Nat}{l:List (Nat×Inst)}(E:yO P slots ops=some (.dreg n l))(a4:∀(i:Nat)(o:Oper)(t:Tmp),ops[i]?=some o->o.dst=some t->t<nt){b:Nat}{S:Nat->DS}(a5:(S 0).ls=[])(a3:(S 0).gs=[(S 0).m])(ad:∀p x,l[p]?=some x->MB cf b x (S p) (S (p+1))):
  ∃ord X,Fixed P slots nt cf b ops ord X S∧l.length=ord.length∧∀p x,l[p]?=some x->X p=x:=by
 unfold yO at E;split at E;cases E;rename_i d a1;split at E;rename_i W;cases E;generalize hord:canon (Dz ops) (masks ops.toList) ops.size=ord at *;simp only [Vt,q8] at W;obtain⟨⟨⟨⟨c1,c2⟩,c3⟩,c4⟩,c5⟩:=W;obtain⟨V,a0⟩:=Tp _ _ _ a1;obtain⟨a8,C⟩:=MF (masks ops.toList) (ord.zip d) [] 0;have I:(ord.zip d).length=ord.length:=by rw [List.length_zip];omega
 generalize hl:numbered (masks ops.toList) (ord.zip d) [] 0=l at *;have M:∀p i x,ord[p]?=some i->d[p]?=some x->(ord.zip d)[p]?=some (i,x):=λp i x g u=>by rw [agw];exact⟨g,u⟩
 have D:∀p i,ord[p]?=some i->∃x o,d[p]?=some x∧ops[i]?=some o∧pV P slots (gy ops ord p) ops i=some (x,o.dst)∧(l.getD p default).2=x∧l[p]?=some (l.getD p default):=by intro p i f;obtain⟨x,o,g,u,G⟩:=a0 p i f;obtain⟨c,v,_⟩:=C p i x (M p i x f g);refine⟨x,o,g,u,by simpa using G,by rw [Y7,v];rfl,by rw [Y7,v];rfl⟩
 have a6:∀i∈ord,i<ops.size:=λi R=>Eq.mp X8 (aa4.1 c2 i R);have w:∀p i x,ord[p]?=some i->d[p]?=some x->uq (masks ops.toList) ops i x ((ord.zip d).take p).reverse=true:=λp i x g u=>by have:=Mw c5 p (i,x) (M p i x g u);simpa using this
 have K:∀p q j,q<p->p<=ord.length->ord[q]?=some j->∃x,(j,x)∈((ord.zip d).take p).reverse∧d[q]?=some x:=λp q j A f T=>by obtain⟨x,_,g,_⟩:=D q j T;refine⟨x,ai6.2 ?_,g⟩;refine Xl (i:=q) ?_;rw [aed,if_pos A];exact M q j x T g
 have L:∀p i,p<ord.length->ord[p]?=some i->∀y,QL (masks ops.toList) i ((ord.zip d).take p).reverse y=true->MH ops ord (λp=>l.getD p default) p i y:=by
  intro p i f R y F;cases y with
  | con c=>trivial
  | loc k=>
   simp only [QL] at F;split at F;rename_i z N;have hk:k<p:=by have:=(Hl.1 N).1;simp at this;omega
   rw [JI _ _ _ (by omega) hk] at N;obtain⟨g,_⟩:=agw.1 N;exact⟨z.1,hk,g,fE ops i z.1 F⟩;cases F
  | slot j=>intro q A e;obtain⟨x,hm,hx⟩:=K p q (ord[q]'(by omega)) A (by omega) (q9 (by omega));obtain⟨x',o',g,_,_,u,_⟩:=D q (ord[q]'(by omega)) (q9 (by omega));rw [hx] at g;cases g;have:=aa4.1 F _ hm;rw [u] at e;simp [e] at this
 refine⟨ord,λp=>l.getD p default,⟨xW c1,λi R=>?_,a6,λp i f=>?_,λp f=>?_,λp i f Q q j A T=>?_,λp i o f B e he hb=>?_,λi j oi oj t R T g u=>?_,λi o t B ht q oq A a7 ac=>?_,λp i f y F=>?_,
  λp i y wt f hg=>?_,λp i o f B=>?_,λp q o o' aa A B H=>?_,a4,a3,a5⟩,by rw [a8,I],λp x h=>by simp [Y7,h]⟩
 have:=aa4.1 c3 i (acj.2 R);simpa using this;obtain⟨x,o,g,u,G,v,_⟩:=D p i f;obtain⟨o',J,Z,O,U,g5⟩:=lJ G;rw [u] at J;cases J;exact⟨o,u,by show (l.getD p default).2.op=_;rw [v];exact O,by show (l.getD p default).2.dst=_;rw [v];exact U,by show nH _ _ _ (l.getD p default).2.guard;rw [v];exact g5⟩;obtain⟨x,o,_,_,_,_,h5⟩:=D p (ord[p]) (q9 f);exact ad p _ h5;obtain⟨x,o,g,u,G,v,_⟩:=D p i f;have Q:R3 (l.getD p default).2=true:=Q;rw [v] at Q;have s:=w p i x f g;simp only [uq,q8] at s;have s:=s.1.1.1;unfold R3 at Q;split at Q;rename_i eo a2;rw [a2] at s;obtain⟨x',hm,_⟩:=K p q j A (by have:=(Hl.1 f).1;omega) T;exact fE ops i j (aa4.1 s _ hm);cases Q;obtain⟨x,o',g,u,G,v,_⟩:=D p i f;have s:=w p i x f g;simp only [uq,q8] at s;have s:=s.1.1.2;rw [B] at s;simp only [q8] at s;have:=aa4.1 s.1 e (by simpa using he);rw [hb] at this;simp only [ahY,ae5] at this;obtain⟨y,F,ae⟩:=List.any_eq_true.1 this;obtain⟨q,A⟩:=aai (ai6.1 F);rw [aed] at A;split at A;rename_i ab;obtain⟨J,_⟩:=agw.1 A;exact⟨q,ab,by rw [J];simpa using ae⟩;cases A;exact qy (xW c4) (by simpa using R) (by simpa using T) g u;obtain⟨p,f⟩:=aai (show i∈ord from by have:=aa4.1 c3 i (acj.2 (K9.1 B).1);simpa using this);obtain⟨x,o',g,u,G,v,_⟩:=D p i f;have s:=w p i x f g;simp only [uq,q8] at s;have s:=s.1.1.2;rw [B] at s;simp only [q8] at s;have:=aa4.1 (aa4.1 s.2 t ht) q (acj.2 (K9.1 A).1);rw [A] at this;simp only [ac,bne_self_eq_false,alq,aci,beq_iff_eq] at this;rcases this with (h | h) | h;exact absurd h a7;exact .inl (fE ops i q h);exact .inr (fE ops q i h);obtain⟨x,o',g,u,G,v,_⟩:=D p i f;have s:=w p i x f g;simp only [uq,q8] at s;have F:y∈Dl (l.getD p default).2.op:=F;rw [v] at F;exact L p i (Hl.1 f).1 f y (aa4.1 s.1.2 y F);obtain⟨x,o',g,u,G,v,_⟩:=D p i f;have s:=w p i x f g;simp only [uq,q8] at s
 have hg:(l.getD p default).2.guard=some (y,wt):=hg;rw [v] at hg;have s:=s.2;rw [hg] at s;exact L p i (Hl.1 f).1 f y s;obtain⟨x,o',g,u,G,v,h5⟩:=D p i f;obtain⟨c,J,Z,_⟩:=C p i x (M p i x f g);have B:(l.getD p default).2.op=.r o:=B;rw [v] at B;have s:(l.getD p default).1=c:=by rw [Y7,J];rfl
 show (l.getD p default).1=_;rw [s,Z (by simp [isR,B]),ae8,Zz V (λp x Y=>?_) p (afz (Hl.1 f).1)];have a9:p<ord.length:=by have:=(Hl.1 Y).1;omega
 obtain⟨x',_,O,_,_,U,_⟩:=D p (ord[p]) (q9 a9);rw [Y] at O;cases O;exact U;have f:p<ord.length:=by omega
 obtain⟨x,o1,g,u,G,v,h5⟩:=D p (ord[p]) (q9 f);obtain⟨y,o2,k1,k2,k3,k4,k5⟩:=D q (ord[q]) (q9 A);obtain⟨c,J,_,Z⟩:=C p _ x (M p _ x (q9 f) g);obtain⟨c',O,_,U⟩:=C q _ y (M q _ y (q9 A) k1);have B:(l.getD p default).2.op=.a o:=B;have H:(l.getD q default).2.op=.a o':=H;rw [v] at B;rw [k4] at H;show (l.getD p default).1<(l.getD q default).1;rw [show (l.getD p default).1=c from by rw [Y7,J];rfl,show (l.getD q default).1=c' from by rw [Y7,O];rfl,Z (by simp [isR,B]),U (by simp [isR,H])];have af:(ord.zip d)[p]'(by rw [I];exact f)=(ord[p],x):=by have:=M p _ x (q9 f) g;rw [q9 (by rw [I];exact f)] at this;exact Y4 this
 have:=Ev (λy:Nat×Inst=>isA y.2) (ord.zip d) aa (by rw [I];exact f) (by rw [af];simp [isA,B]);omega;cases E
def sV (n:Nat)(listed:Array Bool):Nat:=((List.range n).filter λi=>!listed.getD i false).length
theorem AO {listed:Array Bool}{n i:Nat}(k:listed.size=n)(g:i<n)(b:listed.getD i false=false):sV n (listed.setIfInBounds i true)+1=sV n listed:=by
 unfold sV;have c:∀l:List Nat,l.Nodup->(l.filter λj=>!(listed.setIfInBounds i true).getD j false).length+(if i∈l then 1 else 0)=(l.filter λj=>!listed.getD j false).length:=by
  intro l;induction l with
  | nil=>intro _;simp
  | cons x l ih=>
   intro h;obtain⟨d,f⟩:=ad1.1 h;have:=ih f;by_cases hx:x=i;subst hx;rw [if_neg d] at this;rw [if_pos (by simp),agE (by rw [Y0 _ _ _ (by omega),if_pos rfl];simp),agF (by rw [b];rfl),Y1];omega;have e:(listed.setIfInBounds i true).getD x false=listed.getD x false:=by rw [Y0 _ _ _ (by omega),if_neg hx]
   have a:(i∈x::l)↔i∈l:=Z4.trans ⟨λh=>h.resolve_left (λe=>hx e.symm),.inr⟩;simp only [a];cases hl:listed.getD x false with
   | true=>rw [agE (by rw [e,hl];simp),agE (by rw [hl];simp)];exact this
   | false=>rw [agF (by rw [e,hl];rfl),agF (by rw [hl];rfl),Y1,Y1];omega
 have:=c (List.range n) List.nodup_range;rw [if_pos (acj.2 g)] at this;exact this
theorem Wm {b:Nat}{a:List Nat}{X:Nat->Nat×Inst}{S:Nat->DS}{listed:Array Bool}(F:Fixed P slots nt cf b ops a X S)(c:∀p,p<a.length->Lp a listed p=true):∀p,p<=a.length->zy a X S listed p=(S p).env:=by
 intro p;induction p with
 | zero=>intro _;rfl
 | succ p ih=>intro e;obtain⟨_,d⟩:=F.ls (p:=p) (by omega);rw [d,← ih (by omega)];show bW (X p).2.dst (vm a S listed p) _=_;simp [vm,c p (by omega)]
def PG (P:Program)(G:Mem)(slots:List Nat)(nt:Nat)(cf:D7)(r:Option Nat):Prop:=
 ∀(ops:Array Oper) (n:Nat) (l:List (Nat×Inst)),yO P slots ops=some (.dreg n l)->(∀(i:Nat) (o:Oper) (t:Tmp),ops[i]?=some o->o.dst=some t->t<nt)->
  ∀(Q:Exit->Act->World->Prop) (env:T d9) (m:Mem) (ι:J5) (w:World) (a:Act) (outs:List EM),
  RM P G ι m w.heap->R7 ι (m.nm ι) slots env a.tmps->nt<=a.tmps.size->uj l cf m.nx [] env (reserve n m) [reserve n m]=some outs->
  (∀e∈outs,e.px=none->e.mks=[]->∀ι' w' a',Step P G ι m w ι' e.m w'->R7 ι' (e.m.nm ι') slots e.env a'.tmps->a'.defers=a.defers->a'.tmps.size=a.tmps.size->Q .normal a' w')->
  (∀e∈outs,∀y,e.px=some y->e.mks=[]->∀ι' w' a',Step P G ι m w ι' e.m w'->y.lt (e.m.nm ι')->R7 ι' (e.m.nm ι') slots e.env a'.tmps->a'.defers=a.defers->a'.tmps.size=a.tmps.size->Q (.panic [{v:=l9 ι' y,recovered:=false}]) a' w')->
  wpAnyIn (FR r) 0 P .any ops Q ops.size (Array.replicate ops.size false) a {w with drawn:=w.drawn+1}
theorem BO (ai:nD P G cf)(slots:List Nat)(nt:Nat)(r:Option Nat):PG P G slots nt cf r:=by
 intro ops n l b7 bb Q b4 m ι w a b3 hm b8 a7 hv hQ b6;obtain⟨S,a0,aw⟩:=PD (cf:=cf) (b:=m.nx) l ⟨[],b4,reserve n m,[reserve n m]⟩ b3 hv;have be:∀p x,l[p]?=some x->MB cf m.nx x (S p) (S (p+1)):=by rcases aw with⟨h,_⟩ | ⟨N,Dd,y,m',es,h,_⟩;exact λp x g=>.inl (h p x g);intro p x g;rcases h.step p x g with⟨_,h⟩ | ⟨_,_,h,_⟩;exact .inl h;exact .inr h
 obtain⟨c,X,F,b0,ah⟩:=Wl (cf:=cf) (b:=m.nx) (S:=S) b7 bb (by rw [a0]) (by rw [a0]) be;have I:∀p,p<c.length->∃x,l[p]?=some x∧X p=x:=λp g=>⟨l[p]'(by omega),q9 (by omega),ah p _ (q9 (by omega))⟩;have hb:m.lim<=m.nx:=hm.limn;have U:R7 ι (m.nm ι) slots (S 0).env a.tmps:=by rw [a0];exact b8
 have af:Step P G ι m w ι (reserve n m) {w with drawn:=w.drawn+1}:=(Step.drew hm _).trans (zu n (Step.drew hm (w.drawn+1)).rm);have v:∀i,(Array.replicate ops.size false).getD i false=false:=λi=>by rw [Q5,acn];split<;>rfl
 have K:∀p,Lp c (Array.replicate ops.size false) p=false:=λp=>by unfold Lp;split;exact v _;rfl
 rcases aw with⟨hlv,hout⟩ | ⟨N,Dd,y,m',es,hPan,hout⟩;have al:∀p,p<c.length->DStep cf m.nx (X p) (S p) (S (p+1)):=λp g=>by obtain⟨x,R,rfl⟩:=I p g;exact hlv p _ R
 have a9:∀(u:Nat) (listed:Array Bool) (Y:Act) (w':World) (M:J5) (q:Nat),kR P G m.nx ops c X S ι m w a listed Y w' M q->sV ops.size listed=u->
   wpAnyIn (FR r) 0 P .any ops Q u listed Y w':=by
  intro u;induction u with
  | zero=>
   intro listed Y w' M q D f;have a1:∀i,i<ops.size->listed.getD i false=true:=λi V=>by
    cases hl:listed.getD i false with
    | true=>rfl
    | false=>have:i∈(List.range ops.size).filter λi=>!listed.getD i false:=ad2.2 ⟨acj.2 V,by rw [hl];rfl⟩;rw [aa2.1 f] at this;cases this
   have W:∀p,p<c.length->Lp c listed p=true:=λp g=>by rw [jK (q9 g)];exact a1 _ (F.lt _ (aa3 g))
   refine⟨?_,?_⟩;unfold Region.ready;refine agK.2 λi V=>?_;have V:=acj.1 V;have T:listed.getD i true=true:=by have:=a1 i V;rw [Q5,aaf (by rw [D.len];exact V)] at this ⊢;exact this
   simp [T];have hq:=D.hq;have ae:=F.lay_all (q:=q) (L:=Lp c listed) (c.length-q) (by omega) λk hk=>⟨W _ (by omega),by
    cases he:R3 (X (q+k)).2 with
    | false=>rfl
    | true=>have:=D.high (q+k) (by omega) he;rw [W _ (by omega)] at this;cases this⟩
   rw [show q+(c.length-q)=c.length from by omega] at ae;have ac:=D.lay F hb (c.length-q) (by omega);have s:=D.st F hb U a7 (c.length-q) (by omega) c.length (by omega);rw [ae] at ac s;have ad:=s.env;rw [Wm F W c.length (J2 _)] at ad;refine hQ ⟨(S c.length).env,(S c.length).m,none,[]⟩ (by rw [hout,← b0];exact aA.2 rfl) rfl rfl M w' Y ac (ad.Rc (by rw [kG,D.sz]) λt=>?_) D.defs D.sz;by_cases hw:∃(i:Nat) (o:Oper),ops[i]?=some o∧o.dst=some t;obtain⟨i,o,C,ht⟩:=hw;obtain⟨p,g⟩:=aai (F.all i (K9.1 C).1);have H:=(Hl.1 g).1;rw [D.tw p i o t g (a1 i (K9.1 C).1) C ht,Eu F a7 g C ht c.length H];simp [vm,W p H];rw [D.tn t λi o _ C ht=>hw ⟨i,o,C,ht⟩,zA c.length λr i o _ _ C ht=>hw ⟨i,o,C,ht⟩]
  | succ u ih=>
   intro listed Y w' M q D f;refine⟨λa6=>?_,λi V=>?_⟩
   ·
    exfalso;have aj:∃p,p<c.length∧Lp c listed p=false:=by have:((List.range ops.size).filter λi=>!listed.getD i false)≠[]:=λe=>(by unfold sV at f;rw [e] at f;cases f);obtain⟨i,V⟩:=agy _ this;obtain⟨T,O⟩:=ad2.1 V;obtain⟨p,g⟩:=aai (F.all i (acj.1 T));exact⟨p,(Hl.1 g).1,by rw [jK g];simpa using O⟩
    have a5:∀N,(∃p,p<N∧p<c.length∧Lp c listed p=false)->∃p,p<c.length∧Lp c listed p=false∧∀q,q<p->Lp c listed q=true:=by
     intro N;induction N with
     | zero=>rintro⟨p,h,_⟩;omega
     | succ N ihN=>
      rintro⟨p,T,O,h3⟩;by_cases hx:∃p,p<N∧p<c.length∧Lp c listed p=false;exact ihN hx;refine⟨p,O,h3,λq hq=>?_⟩;cases hl:Lp c listed q with
      | true=>rfl
      | false=>exact absurd ⟨q,by omega,by omega,hl⟩ hx
    obtain⟨p0,am,an⟩:=aj;obtain⟨p,T,O,h3⟩:=a5 (p0+1) ⟨p0,by omega,am,an⟩;have g:=q9 T;have B:c[p]∈Region.ready .any ops listed:=by obtain⟨o,C,_⟩:=F.inst p _ g;refine mem_ready.2 ⟨?_,o,C,λe he A=>?_⟩;rw [jK g] at O;have E:c[p]<listed.size:=(by rw [D.len];exact F.lt _ (aa3 T));rw [Q5,aaf E] at O ⊢;exact O;obtain⟨q',ao,ap⟩:=F.edges p _ o g C e he A;have:=h3 q' ao;rw [jK ap] at this;exact this
    rw [a6] at B;cases B
   obtain⟨z,o,C,hr⟩:=mem_ready.1 V;have E:i<listed.size:=by rw [D.len];exact (K9.1 C).1
   have z:listed.getD i false=false:=by rw [Q5,aaf E] at z ⊢;exact z
   refine kR.op ai F hb U a7 D C z hr (λp g=>al p (Hl.1 g).1) λa2 w2 aa q2 D2=>?_;refine ih _ a2 w2 aa q2 D2 ?_;have:=AO D.len (by rw [← D.len];exact E) z;omega
 refine a9 _ _ a _ ι 0 ⟨ae1 _,.inl rfl,λp g=>by omega,λp _ _=>K p,by rw [a0];exact af,(λd i ag h=>by rw [K] at h;cases h),(λd d' i i' ag ar _ h=>by rw [K] at h;cases h),
  (λd h=>by rw [K] at h;cases h),(λp g=>by omega),(λp i o t _ h=>by rw [v] at h;cases h),λt _=>rfl,rfl,rfl,(λi o h=>by rw [v] at h;cases h),by simp⟩ ?_
 unfold sV;rw [agv.2 (λi _=>by rw [v];rfl),agG];obtain⟨xN,eoN,az,bc,b9⟩:=hPan.at_;have au:N<c.length:=by have:=(Hl.1 az).1;omega
 obtain⟨iN,a8⟩:∃i,c[N]?=some i:=⟨_,q9 au⟩;have ba:iN<ops.size:=F.lt _ (Xl a8);have av:=ah N xN az;have bf:(X N).2.op=.e eoN:=by rw [av];exact bc
 have b5:Je (X N).2.guard (nO eoN) cf (S N).ls (S N).env (S N).m=some [⟨.mq y,m'⟩]:=by rw [av];exact b9
 have J:∀p i,c[p]?=some i->Dd p=true->p=N∨AJ ops i iN:=by
  intro p;induction p using Nat.strongRecOn with
  | _ p ihp=>
   intro i g hd;have H:=(Hl.1 g).1;obtain⟨x,R,aq⟩:=I p H;rcases hPan.step p x R with⟨h,_⟩ | ⟨hNp,_,_,hw⟩;rw [hd] at h;cases h;rcases hw with h | h | ⟨k,hk,q,hqp,hkq,hq⟩;exact .inl h;by_cases hpN':p=N;exact .inl hpN';obtain⟨eo,he⟩:=h;exact .inr (F.eff p i g (by rw [aq];simp [R3,he]) N iN (by omega) a8);have bd:MH ops c X p i (.loc k):=by rcases hk with hk | ⟨wt,hk⟩;exact F.YD p i g _ (by rw [aq];exact hk);exact F.opdg p i _ wt g (by rw [aq];exact hk)
   obtain⟨j,bh,ak,ay⟩:=bd;have e:p-1-k=q:=by omega
   rw [e] at ak;rcases ihp q hqp j ak hq with rfl | h;obtain rfl:=Y4 (ak.symm.trans a8);exact .inr ay;exact .inr (ay.trans h)
 have a9:∀(u:Nat) (listed:Array Bool) (Y:Act) (w':World) (M:J5) (q:Nat),kR P G m.nx ops c X S ι m w a listed Y w' M q->listed.getD iN false=false->sV ops.size listed=u->
   wpAnyIn (FR r) 0 P .any ops Q u listed Y w':=by
  intro u;induction u with
  | zero=>intro listed Y w' M q D Z f;exfalso;have:iN∈(List.range ops.size).filter λi=>!listed.getD i false:=ad2.2 ⟨acj.2 ba,by rw [Z];rfl⟩;rw [aa2.1 f] at this;cases this
  | succ u ih=>
   intro listed Y w' M q D Z f;refine⟨λa6=>?_,λi V=>?_⟩
   ·
    exfalso;have aj:∃p,p<c.length∧Lp c listed p=false:=by have:((List.range ops.size).filter λi=>!listed.getD i false)≠[]:=λe=>(by unfold sV at f;rw [e] at f;cases f);obtain⟨i,V⟩:=agy _ this;obtain⟨T,O⟩:=ad2.1 V;obtain⟨p,g⟩:=aai (F.all i (acj.1 T));exact⟨p,(Hl.1 g).1,by rw [jK g];simpa using O⟩
    have a5:∀N,(∃p,p<N∧p<c.length∧Lp c listed p=false)->∃p,p<c.length∧Lp c listed p=false∧∀q,q<p->Lp c listed q=true:=by
     intro N;induction N with
     | zero=>rintro⟨p,h,_⟩;omega
     | succ N ihN=>
      rintro⟨p,T,O,h3⟩;by_cases hx:∃p,p<N∧p<c.length∧Lp c listed p=false;exact ihN hx;refine⟨p,O,h3,λq hq=>?_⟩;cases hl:Lp c listed q with
      | true=>rfl
      | false=>exact absurd ⟨q,by omega,by omega,hl⟩ hx
    obtain⟨p0,am,an⟩:=aj;obtain⟨p,T,O,h3⟩:=a5 (p0+1) ⟨p0,by omega,am,an⟩;have g:=q9 T;have B:c[p]∈Region.ready .any ops listed:=by obtain⟨o,C,_⟩:=F.inst p _ g;refine mem_ready.2 ⟨?_,o,C,λe he A=>?_⟩;rw [jK g] at O;have E:c[p]<listed.size:=(by rw [D.len];exact F.lt _ (aa3 T));rw [Q5,aaf E] at O ⊢;exact O;obtain⟨q',ao,ap⟩:=F.edges p _ o g C e he A;have:=h3 q' ao;rw [jK ap] at this;exact this
    rw [a6] at B;cases B
   obtain⟨z,o,C,hr⟩:=mem_ready.1 V;have E:i<listed.size:=by rw [D.len];exact (K9.1 C).1
   have z:listed.getD i false=false:=by rw [Q5,aaf E] at z ⊢;exact z
   by_cases hiN':i=iN;subst hiN';have a3:∀p,N<p->Lp c listed p=true->Dd p=false:=λp g W=>by
    cases hd:Dd p with
    | false=>rfl
    | true=>exfalso;have H:=uS W;have b2:=q9 H;rcases J p _ b2 hd with h | h;omega;rw [jK b2] at W;have:=h.listed D.closed λo' ab e he A=>D.closed _ o' W ab e he A;rw [Z] at this;cases this
   refine kR.mq ai F hb U a7 D a8 C z hr bf b5 (λp g H W=>?_) λaa w2 ac b1 a4=>?_;obtain⟨x,R,rfl⟩:=I p H;exact hPan.na p _ g R (a3 p g W);have B:=hPan.envs (Lp c listed) a3;have bg:∀k,ML c X S listed N k=Cv (l.drop (N+1)) (λk=>(S (N+1+k+1)).ls.headD .undef) (λk=>Lp c listed (N+1+k)) (S N).env k:=by
    intro k;induction k with
    | zero=>rfl
    | succ k ihk=>
     rw [ML,Cv,aee,ihk];cases hlk:l[N+1+k]? with
     | some x=>rw [ah _ _ hlk];rfl
     | none=>
      have:Lp c listed (N+1+k)=false:=by
       cases W:Lp c listed (N+1+k) with
       | false=>rfl
       | true=>have T:=uS W;have O:=List.getElem?_eq_none_iff.1 hlk;omega
      rw [this,if_neg (by decide)]
   rw [bg,← b0] at a4;exact b6 ⟨_,m',some y,[]⟩ (by rw [hout,ME];exact agu B) y rfl rfl aa w2 Y ac b1 a4 D.defs D.sz;have ax:∀j,AJ ops i j->listed.getD j false=true:=λj hj=>hj.listed D.closed λo' ab e he A=>by rw [C] at ab;cases ab;exact hr e he A
   refine kR.op ai F hb U a7 D C z hr (λp g=>?_) λa2 w2 aa q2 D2=>?_;have H:=(Hl.1 g).1;obtain⟨x,R,rfl⟩:=I p H;rcases hPan.step p _ R with⟨_,h⟩ | ⟨hNp,hDd,_,_⟩;exact h;exfalso;rcases J p i g hDd with rfl | h;exact hiN' (Y4 (g.symm.trans a8));have:=ax _ h;rw [Z] at this;cases this;refine ih _ a2 w2 aa q2 D2 ?_ ?_;rw [Y0 _ _ _ E,if_neg (agn hiN')];exact Z;have:=AO D.len (by rw [← D.len];exact E) z;omega
 refine a9 _ _ a _ ι 0 ⟨ae1 _,.inl rfl,λp g=>by omega,λp _ _=>K p,by rw [a0];exact af,(λd i ag h=>by rw [K] at h;cases h),(λd d' i i' ag ar _ h=>by rw [K] at h;cases h),
  (λd h=>by rw [K] at h;cases h),(λp g=>by omega),(λp i o t _ h=>by rw [v] at h;cases h),λt _=>rfl,rfl,rfl,(λi o h=>by rw [v] at h;cases h),by simp⟩ (v _) ?_
 unfold sV;rw [agv.2 (λi _=>by rw [v];rfl),agG]
end
section
variable {F:Fence}{n:Nat}{P:Program}
theorem PI {o:Oper}{a:Act}{w:World}{K j:Act->World->Prop}{Q Q':Exit->Act->World->Prop}(g:∀a w,K a w->j a w)(h:∀c a w,Q (.panic c) a w->Q' (.panic c) a w)(f:LetsOut Q->LetsOut Q')
  (b:o.wpIn F n P a w K Q):o.wpIn F n P a w j Q':=by
 unfold Oper.wpIn at *;refine⟨b.1,?_⟩;have b:=b.2;generalize (o.semAt F.round a.eval).run P w=r at *;cases r with
 | ok x w'=>
  cases x<;>simp only [Oper.uponIn] at b ⊢ <;>
   first
    | exact g _ _ b
    | exact⟨b.1,ai9 b.2 (λe i d=>by cases e<;>first | exact g _ _ d | exact h _ _ _ d | exact f d)⟩
    | exact⟨b.1,RowsIn.mono b.2 (λ_ _ d=>g _ _ d)⟩
    | exact⟨b.1,RoundIn.mono b.2 (λe i d=>by cases e<;>first | exact g _ _ d | exact h _ _ _ d | exact f d)⟩
 | halt x w'=>cases x<;>simp only [Oper.uponIn] at b ⊢ <;> first | exact b | exact h _ _ _ b
theorem least {p:Nat->Prop}(h:∃j,p j):∃j,p j∧∀q,q<j->¬ p q:=by
 obtain⟨j,c⟩:=h;induction j using Nat.strongRecOn with
 | _ j ih=>by_cases hx:∃q,q<j∧p q;obtain⟨q,a,b⟩:=hx;exact ih q a b;exact⟨j,c,λq e d=>hx ⟨q,e,d⟩⟩
theorem Ew {ops:Array Oper}{listed:Array Bool}(b:kF ops listed)(hs:listed.size=ops.size){i:Nat}{o:Oper}(g:ops[i]?=some o)
  (k:∀e∈o.after,Region.binds .any e=true->listed.getD e.on false=true):kF ops (listed.setIfInBounds i true):=by
 have h:i<listed.size:=by rw [hs];exact (K9.1 g).1
 intro j l c a e f d;rw [Y0 _ _ _ h] at c ⊢;by_cases hji:j=i;subst hji;rw [g] at a;cases a;rw [k e f d];split<;>rfl
 rw [if_neg hji] at c;rw [b j l c a e f d];split<;>rfl
theorem zC {A:Array Bool}{i:Nat}(a:i<A.size):A.getD i true=A.getD i false:=by rw [Q5,Q5,aaf a];rfl
theorem MN {o:Oper}(h:o.guard=none)(y:Nat->Option Bool):Region.wanted o y=true:=by unfold Region.wanted;rw [h]
theorem Gm {ops:Array Oper}{k:Nat}(T:k<=ops.size)(S:∀(i:Nat)(o:Oper),ops[i]?=some o->o.guard=none)
  (l:∀(i:Nat) (o:Oper),ops[i]?=some o->∀e∈o.after,Region.binds .any e=true->e.on<i)
  (r:∀i,k<=i->i<ops.size->∀j,j<k->AJ ops i j) {Q Q1:Exit->Act->World->Prop} (R:∀c a w,Q1 (.panic c) a w->Q (.panic c) a w) (B:LetsOut Q1->LetsOut Q)
  (q:∀a w,Q1 .normal a w->∀listed:Array Bool,listed.size=ops.size->kF ops listed->(∀j,listed.getD j false=decide (j<k))->wpAnyIn F n P .any ops Q (ops.size-k) listed a w):
  ∀(fuel:Nat) (listed lp:Array Bool) (a:Act) (w:World),listed.size=ops.size->lp.size=k->(∀j,listed.getD j false=lp.getD j false)->kF ops listed->sV k lp=fuel->
   wpAnyIn F n P .any (ops.extract 0 k) Q1 fuel lp a w->wpAnyIn F n P .any ops Q (fuel+(ops.size-k)) listed a w:=by
 intro fuel;induction fuel with
 | zero=>
  intro listed lp a w A K d b u h;rw [aad];refine q a w h.2 listed A b λj=>?_;rw [d j];by_cases hj:j<k;have:lp.getD j false=true:=by
   cases hx:lp.getD j false with
   | true=>rfl
   | false=>have:j∈(List.range k).filter λi=>!lp.getD i false:=ad2.2 ⟨acj.2 hj,by rw [hx];rfl⟩;rw [aa2.1 u] at this;cases this
  rw [this];simp [hj];rw [Q5,aec (by omega)];simp [hj]
 | succ fuel ih=>
  intro listed lp a w A K d b u h;rw [show fuel+1+(ops.size-k)=(fuel+(ops.size-k))+1 from by omega];have s:∃j,j<k∧lp.getD j false=false:=by
   have:((List.range k).filter λi=>!lp.getD i false)≠[]:=λe=>by unfold sV at u;rw [e] at u;cases u
   obtain⟨i,D⟩:=agy _ this;obtain⟨p,N⟩:=ad2.1 D;exact⟨i,acj.1 p,by simpa using N⟩
  refine⟨λx=>?_,λi D=>?_⟩;exfalso;obtain⟨j,⟨t,m⟩,I⟩:=least s;have f:=aaf (xs:=ops) (i:=j) (by omega);have:j∈Region.ready .any ops listed:=mem_ready.2 ⟨by rw [zC (by omega),d,m],_,f,λe J C=>by
   have v:=l j _ f e J C;cases hx:listed.getD e.on false with
   | true=>rfl
   | false=>exact absurd ⟨by omega,by rw [← d];exact hx⟩ (I e.on v)⟩
  rw [x] at this;cases this;obtain⟨M,o,f,L⟩:=mem_ready.1 D;have G:i<ops.size:=(K9.1 f).1;have E:i<k:=by refine Nat.lt_of_not_le λH=>?_;obtain⟨j,t,m⟩:=s;have:=(r i H G j t).listed b (λU y=>by rw [f] at y;cases y;exact L);rw [d j,m] at this;cases this
  have z:(ops.extract 0 k)[i]?=some o:=by rw [Array.getElem?_extract,if_pos (by omega),aad];exact f
  have g:listed.getD i false=false:=by rw [← zC (by omega)];exact M
  have p:=h.2 i (mem_ready.2 ⟨by rw [zC (by omega),← d];exact g,o,z,λe J C=>by rw [← d];exact L e J C⟩);unfold wpOpIn at p ⊢;rw [z] at p;rw [f];simp only [MN (S i o f),if_true] at p ⊢;refine PI (λa w O=>ih _ _ a w (by simpa using A) (by simpa using K) (λj=>?_) (Ew b A f L) ?_ O) R B p;rw [Y0 _ _ _ (by omega),Y0 _ _ _ (by omega),d j];have:=AO (n:=k) (listed:=lp) K E (by rw [← d];exact g);omega
end
theorem AP {x:O8}(h:Ls x=true)(ls:List d9)(env:T d9):G6 x ls env=G6 x [] env:=by cases x<;>first | rfl | cases h
theorem T.uT {α:Type}:∀(t:T α) (i j:Nat) {x y:α},t.get i=some x->t.get j=some y->i≠j->∀a b:α,(t.put i a).put j b=(t.put j b).put i a
 | .e,i,j,x,y,h,_,_,_,_=>by cases h
 | .nd l v r,i,j,x,y,hi,hj,hne,a,b=>by
  have hp:∀(l r:T α) (v:α) (k:Nat) (c:α),(T.nd l v r).put (k+1) c=(Nat.rec (.nd (l.put (Nat.div k 2) c) v r) (λ_ _=>.nd l v (r.put (Nat.div k 2) c)) (Nat.mod k 2):T α):=λ_ _ _ _ _=>rfl;have hg:∀(k:Nat),(T.nd l v r).get (k+1)=(Nat.rec (l.get (Nat.div k 2)) (λ_ _=>r.get (Nat.div k 2)) (Nat.mod k 2):Option α):=λ_=>rfl;have hm:∀k:Nat,Nat.mod k 2=0∨Nat.mod k 2=1:=λk=>by have:Nat.mod k 2<2:=ahR _ (by omega);omega
  have h0:∀(l r:T α) (v c:α),(T.nd l v r).put 0 c=.nd l c r:=λ_ _ _ _=>rfl;have hd:∀k q:Nat,Nat.mod k 2=Nat.mod q 2->k≠q->Nat.div k 2≠Nat.div q 2:=λk q h1 h2=>by have e1:Nat.mod k 2=k%2:=rfl;have e2:Nat.mod q 2=q%2:=rfl;have e3:Nat.div k 2=k / 2:=rfl;have e4:Nat.div q 2=q / 2:=rfl;omega
  cases i with
  | zero=>
   cases j with
   | zero=>exact absurd rfl hne
   | succ q=>rw [h0,hp,hp];rcases hm q with e | e<;>rw [e]<;>rfl
  | succ k=>
   cases j with
   | zero=>rw [h0,hp,hp];rcases hm k with e | e<;>rw [e]<;>rfl
   | succ q=>
    rw [hg] at hi hj;rw [hp,hp];have hne':k≠q:=λe=>hne (by rw [e]);rcases hm k with e | e<;>rcases hm q with e' | e'<;>rw [e] at hi ⊢ <;> rw [e'] at hj ⊢
    show (T.nd (l.put (Nat.div k 2) a) v r).put (q+1) b=(T.nd (l.put (Nat.div q 2) b) v r).put (k+1) a;rw [hp,hp,e,e'];show T.nd _ _ _=T.nd _ _ _;rw [T.uT l _ _ hi hj (hd k q (by rw [e,e']) hne') a b];show (T.nd (l.put (Nat.div k 2) a) v r).put (q+1) b=(T.nd l v (r.put (Nat.div q 2) b)).put (k+1) a;rw [hp,hp,e,e'];rfl;show (T.nd l v (r.put (Nat.div k 2) a)).put (q+1) b=(T.nd (l.put (Nat.div q 2) b) v r).put (k+1) a;rw [hp,hp,e,e'];rfl;show (T.nd l v (r.put (Nat.div k 2) a)).put (q+1) b=(T.nd l v (r.put (Nat.div q 2) b)).put (k+1) a;rw [hp,hp,e,e'];show T.nd _ _ _=T.nd _ _ _;rw [T.uT r _ _ hi hj (hd k q (by rw [e,e']) hne') a b]
theorem AQ {a:Nat}{x y:OF}{cf:D7}{ls:List d9}{env:T d9}{m:Mem}{outs:List VM}(h:N9 a x y cf ls env m=some outs):
  ∃id off rs n rows rows',x ls env=.ptr id off∧Nat.beq (len' (y ls env).cells) a=true∧Nat.blt id m.lim=false∧K5 (y ls env).cells=true∧m.get id=some (.cells rs n rows)∧
   U1 rs n rows off (y ls env).cells=some rows'∧outs=[⟨.undef,m.set id (.cells rs n rows')⟩]:=by
 obtain⟨id,off,b,h⟩:=dW h;obtain⟨c,h⟩:=C8 h;obtain⟨d,h⟩:=jX h;obtain⟨e,h⟩:=C8 h;obtain⟨rs,n,rows,f,h⟩:=dh h;obtain⟨rows',g,h⟩:=u6 h;cases h;exact⟨id,off,rs,n,rows,rows',b,c,d,e,f,g,rfl⟩
theorem MO {a:Nat}{x y:OF}{cf:D7}{ls:List d9}{env:T d9}{m:Mem}{id off rs n:Nat}{rows rows':T (List d9)}(b:x ls env=.ptr id off)(c:Nat.beq (len' (y ls env).cells) a=true)
  (d:Nat.blt id m.lim=false) (e:K5 (y ls env).cells=true) (f:m.get id=some (.cells rs n rows)) (g:U1 rs n rows off (y ls env).cells=some rows'):
  N9 a x y cf ls env m=some [⟨.undef,m.set id (.cells rs n rows')⟩]:=by
 show gT (x ls env) _=_;rw [b];show bi (Nat.beq _ _) _ _=_;rw [c];show bi (Nat.blt id m.lim) _ _=_;rw [d];show bi (K5 _) _ _=_;rw [e];show Q6 _ _=_;rw [f];show ob _ _=_;rw [g];rfl
theorem PL {A i:Nat}{x y p B:OF}{cf:D7}{ls ls':List d9}{env:T d9}{m:Mem}{id off b h:Nat}(s:x ls env=.ptr id off)(g:p ls' env=.ptr b h)(d:b≠id)
  {u v:List VM} (L:N9 A x y cf ls env m=some u) {m1:Mem} (K:u=[⟨.undef,m1⟩]) (M:N9 i p B cf ls' env m1=some v):
  ∃mc m2,v=[⟨.undef,m2⟩]∧N9 i p B cf ls' env m=some [⟨.undef,mc⟩]∧N9 A x y cf ls env mc=some [⟨.undef,m2⟩]:=by
 obtain⟨N,P,z,n,w,c,q,C,D,E,k,F,rfl⟩:=AQ L;cases K;rw [s] at q;cases q;obtain⟨O,Q,f,l,o,a,r,G,H,I,j,J,rfl⟩:=AQ M;rw [g] at r;cases r;rw [Mem.xZ k,if_neg d] at j;refine⟨_,_,rfl,MO g G H I j J,?_⟩;have:=MO (m:=m.set b (.cells f l a)) (cf:=cf) s C D E (by rw [Mem.xZ j,if_neg (agn d)];exact k) F;rw [this];have e:(m.set b (.cells f l a)).set id (.cells z n c)=(m.set id (.cells z n c)).set b (.cells f l a):=by unfold Mem.set;rw [T.uT m.t b id j k d]
 rw [e]
section
variable {P:Program}{G:Mem}{ι:J5}{m:Mem}{w:World}{slots:List Nat}{done:List (Option Nat)}{ls:List d9}{env:T d9}{a:Act}{ops:Array Oper}{Q:Exit->Act->World->Prop}
theorem qh {r:Option Nat}{cf:D7}(c:nD P G cf)(s:St P ι (m.nm ι) slots done ls env a.tmps)(l:RM P G ι m w.heap){i:Nat}{o:Oper}(n:ops[i]?=some o)(k:o.guard=none)
  {v:d9} {m1:Mem} (p:QV cf (kQ P slots done o.op) ls env m=some [⟨v,m1⟩]) (b:∀x,v≠.mq x) {K:Act->World->Prop}
  (j:∀ι' w',Step P G ι m w ι' m1 w'->v.lt (m1.nm ι')->K (a.put o.dst (l9 ι' v)) w'):wpOpIn (FR r) 0 P ops Q i K a w:=by
 unfold wpOpIn;rw [n];refine QX (g:=none) c s l (by rw [k];rfl) (outs:=[⟨v,m1⟩]) p ?_ ?_;intro x d ι' w' e f;obtain rfl:=aA.1 d;exact j ι' w' e f;intro x d y ι' w' h;obtain rfl:=aA.1 d;exact absurd h (b y)
theorem St.stepped {ι':J5}{m':Mem}{w':World}{tmps:Array Value}(s:St P ι (m.nm ι) slots done ls env tmps)(h:Step P G ι m w ι' m' w'):St P ι' (m'.nm ι') slots done ls env tmps:=
 St.mono (n:=m.nm ι) s h.ext (Mem.V7 h.has h.ext)
theorem qO (a:Act)(v:Value):a.put none v=a:=rfl
theorem PN {r:Option Nat}{cf:D7}(C:nD P G cf){nt:Nat}(h3:3<=ops.size){po:Uz}{s R:Nat}{v B v':O8}{d1:Option Nat}
  (hx:pV P slots [] ops (ops.size-3)=some (⟨.p po,none,none⟩,d1)) (hy:pV P slots [(ops[ops.size-3]?).bind (·.dst)] ops (ops.size-2)=some (⟨.e (.store s (.loc 0) v),none,none⟩,none))
  (hz:pV P slots [] ops (ops.size-1)=some (⟨.e (.store R B v'),none,none⟩,none)) (am:Ls B=true) (b8:Ls v'=true)
  (ay:∀(i:Nat) (o:Oper) (t:Tmp),ops[i]?=some o->o.dst=some t->t<nt) (hg:∀(i:Nat) (o:Oper),ops[i]?=some o->o.guard=none)
  (af:∀(i:Nat) (o:Oper),ops[i]?=some o->∀e∈o.after,Region.binds .any e=true->e.on<i) (b9:AJ ops (ops.size-2) (ops.size-3))
  {es:List EM} (hm:RM P G ι m w.heap) (V:R7 ι (m.nm ι) slots env a.tmps) (ap:nt<=a.tmps.size)
  (hv:bB [⟨.p po,none,none⟩,⟨.e (.store s (.loc 0) v),none,none⟩,⟨.e (.storeAp R B v' (.loc 1)),none,none⟩] cf [] env m=some es)
  (hQ:∀e∈es,e.px=none->e.mks=[]->∀ι' w' B,Step P G ι m w ι' e.m w'->R7 ι' (e.m.nm ι') slots e.env B.tmps->B.defers=a.defers->B.tmps.size=a.tmps.size->Q .normal B w')
  {listed:Array Bool} (hs:listed.size=ops.size) (ae:kF ops listed) (hl:∀j,listed.getD j false=decide (j<ops.size-3)):wpAnyIn (FR r) 0 P .any ops Q 3 listed a w:=by
 obtain⟨l1,h1,k1⟩:=zn (o:=.p po) (d:=none) (g:=none) (k:=bB [⟨.e (.store s (.loc 0) v),none,none⟩,⟨.e (.storeAp R B v' (.loc 1)),none,none⟩]) hv;obtain⟨x,hp,h1⟩:=u6 h1;cases h1;obtain⟨os1,ag,b0⟩:=k1 _ (aA.2 rfl);have ag:bB [⟨.e (.store s (.loc 0) v),none,none⟩,⟨.e (.storeAp R B v' (.loc 1)),none,none⟩] cf [x] env m=some os1:=ag;obtain⟨l2,J,k2⟩:=zn (o:=.e (.store s (.loc 0) v)) (d:=none) (g:=none) (k:=bB [⟨.e (.storeAp R B v' (.loc 1)),none,none⟩]) ag;have J:N9 s (G6 (.loc 0)) (G6 v) cf [x] env m=some l2:=J;obtain⟨i1,o1,rs,n,bd,aj,a1,_,_,_,a5,_,e2⟩:=AQ J;obtain⟨os2,W,b4⟩:=k2 _ (by rw [e2];exact aA.2 rfl);generalize hm1:m.set i1 (.cells rs n aj)=m1 at e2 W;have W:bB [⟨.e (.storeAp R B v' (.loc 1)),none,none⟩] cf [.undef,x] env m1=some os2:=W;obtain⟨l3,a8,k3⟩:=zn (o:=.e (.storeAp R B v' (.loc 1))) (d:=none) (g:=none) (k:=o8) W;have a8:Dt R (G6 B) (G6 v') (G6 (.loc 1)) cf [.undef,x] env m1=some l3:=a8;obtain⟨i2,o2,b1,av⟩:=dW a8;obtain⟨ba,o1',b2,aw⟩:=dW av;obtain⟨b3,ax⟩:=jX aw;have ex:x=.ptr i1 o1:=a1;have al:x=.ptr ba o1':=b2;rw [ex] at al;cases al;have az:i2≠i1:=λe=>by rw [e] at b3;simp [aah] at b3
 have au:G6 B [] env=.ptr i2 o2:=by rw [← AP am [.undef,x] env];exact b1
 have a0:N9 R (G6 B) (G6 v') cf [] env m1=some l3:=by have e4:N9 R (G6 B) (G6 v') cf [.undef,x] env m1=some l3:=ax;rw [← e4];simp only [N9,AP am [.undef,x] env,AP b8 [.undef,x] env]
 obtain⟨mc,m2,e3,hc,hb⟩:=PL (x:=G6 (.loc 0)) (y:=G6 v) (ls:=[x]) (ls':=[]) a1 au az J e2 a0;obtain⟨os3,ah,b5⟩:=k3 ⟨.undef,m2⟩ (by rw [e3];exact aA.2 rfl);have ah:some [(⟨env,m2,none,[]⟩:EM)]=some os3:=ah;cases ah;have ao:(⟨env,m2,none,[]⟩:EM)∈es:=b0 _ (b4 _ (b5 _ (aA.2 rfl)));obtain⟨T,hA,rfl,a9,aa,_⟩:=lJ hx;obtain⟨oB,U,ab,H,_,_⟩:=lJ hy;obtain⟨oC,hC,ac,K,_,_⟩:=lJ hz;have a9:.p po=kQ P slots [] T.op:=a9;have H:.e (.store s (.loc 0) v)=kQ P slots [T.dst] oB.op:=by rw [hA] at H;exact H
 have K:.e (.store R B v')=kQ P slots [] oC.op:=K;have aa:none=FU slots T.dst:=aa;have a4:∀y,x≠.mq y:=λy e=>by rw [ex] at e;cases e
 have I:∀(L:Array Bool) (i:Nat) (o:Oper),L.size=ops.size->ops[i]?=some o->L.getD i false=false->(∀j,j<i->L.getD j false=true)->i∈Region.ready .any ops L:=λL i o hL ho ai N=>mem_ready.2 ⟨by rw [zC (by rw [hL];exact (K9.1 ho).1)];exact ai,o,ho,λe he hb=>N _ (af i o ho e he hb)⟩;have D:∀(L:Array Bool) (i:Nat),L.size=ops.size->i∈Region.ready .any ops L->i<ops.size∧L.getD i false=false∧∀o,ops[i]?=some o->∀e∈o.after,Region.binds .any e=true->L.getD e.on false=true:=λL i hL A=>by obtain⟨h1,o,ho,J⟩:=mem_ready.1 A;have F:=(K9.1 ho).1;exact⟨F,by rw [← zC (by omega)];exact h1,λo' aq=>by rw [ho] at aq;cases aq;exact J⟩
 have nB:∀L:Array Bool,L.size=ops.size->kF ops L->L.getD (ops.size-3) false=false->ops.size-2∉Region.ready .any ops L:=λL hL ad ai A=>by have:=b9.listed ad (D L _ hL A).2.2;rw [ai] at this;cases this
 have rC:∀(L:Array Bool),L.size=ops.size->kF ops L->∀i,i∈Region.ready .any ops L->kF ops (L.setIfInBounds i true):=λL hL ad i A=>by obtain⟨_,o,ho,J⟩:=mem_ready.1 A;exact Ew ad hL ho J
 have lA:∀j,(listed.setIfInBounds (ops.size-3) true).getD j false=decide (j<ops.size-2):=λj=>by rw [Y0 _ _ _ (by omega),hl];by_cases u:j=ops.size-3;rw [if_pos u,decide_eq_true (by omega)];rw [if_neg u];exact decide_eq_decide.2 (by omega)
 have lC:∀j,(listed.setIfInBounds (ops.size-1) true).getD j false=decide (j<ops.size-3∨j=ops.size-1):=λj=>by rw [Y0 _ _ _ (by omega),hl];by_cases u:j=ops.size-1;rw [if_pos u,decide_eq_true (.inr u)];rw [if_neg u];exact decide_eq_decide.2 (by omega)
 have X:∀j,((listed.setIfInBounds (ops.size-3) true).setIfInBounds (ops.size-2) true).getD j false=decide (j<ops.size-1):=λj=>by rw [Y0 _ _ _ (by simp;omega),lA];by_cases u:j=ops.size-2;rw [if_pos u,decide_eq_true (by omega)];rw [if_neg u];exact decide_eq_decide.2 (by omega)
 have Y:∀j,((listed.setIfInBounds (ops.size-3) true).setIfInBounds (ops.size-1) true).getD j false=decide (j<ops.size-2∨j=ops.size-1):=λj=>by rw [Y0 _ _ _ (by simp;omega),lA];by_cases u:j=ops.size-1;rw [if_pos u,decide_eq_true (.inr u)];rw [if_neg u];exact decide_eq_decide.2 (by omega)
 have Z:∀j,((listed.setIfInBounds (ops.size-1) true).setIfInBounds (ops.size-3) true).getD j false=decide (j<ops.size-2∨j=ops.size-1):=λj=>by rw [Y0 _ _ _ (by simp;omega),lC];by_cases u:j=ops.size-3;rw [if_pos u,decide_eq_true (.inl (by omega))];rw [if_neg u];exact decide_eq_decide.2 (by omega)
 have a7:∀(L:Array Bool) (b:Act) (w':World) (ι':J5),(∀j,j<ops.size->L.getD j false=true)->L.size=ops.size->Step P G ι m w ι' m2 w'->R7 ι' (m2.nm ι') slots env b.tmps->b.defers=a.defers->b.tmps.size=a.tmps.size->
   wpAnyIn (FR r) 0 P .any ops Q 0 L b w':=λL b w' ι' N hL b6 he hd b7=>by
  refine⟨List.eq_nil_iff_forall_not_mem.2 λi A=>?_,hQ _ ao rfl rfl ι' w' b b6 he hd b7⟩;obtain⟨h1,J,_⟩:=D L i hL A;rw [N i h1] at J;cases J
 have bb:ops.size-2<ops.size:=by omega
 have a3:∀M:Mem,QV cf (kQ P slots [] T.op) [] env M=some [⟨x,M⟩]:=λM=>by rw [← a9];show ob (nN po [] env) _=_;rw [hp];rfl
 have a6:∀(ι':J5) (M:Mem) (b:Act),nt<=b.tmps.size->R7 ι' (M.nm ι') slots env b.tmps->∀w':World,RM P G ι' M w'.heap->x.lt (M.nm ι')->St P ι' (M.nm ι') slots [T.dst] [x] env (b.put T.dst (l9 ι' x)).tmps:=λι' M b hb he w' hr F=>by have s0:St P ι' (M.nm ι') slots [] [] env b.tmps:=St.start hr he;have:=s0.put T.dst (λt ht=>gq (ay _ _ t hA ht) hb) F;rw [← aa] at this;rw [(iF b T.dst (l9 ι' x)).1];exact this
 refine⟨λf=>?_,λi A=>?_⟩;have:=I listed (ops.size-3) T hs hA (by rw [hl];simp) (λj u=>by rw [hl];simp;omega);rw [f] at this;cases this;have c:=D listed i hs A;have O:¬ i<ops.size-3:=λh=>by have:=c.2.1;rw [hl,decide_eq_true h] at this;cases this
 have l:i=ops.size-3∨i=ops.size-2∨i=ops.size-1:=by have:=c.1;omega
 rcases l with rfl | rfl | rfl
 ·
  have bc:=rC listed hs ae _ A;refine qh C (St.start hm V) hm hA (hg _ _ hA) (a3 m) a4 λar w1 z F=>?_;have sA:=a6 ar m a ap (z.env V) w1 z.rm F;refine⟨λf=>?_,λi A=>?_⟩;have:=I (listed.setIfInBounds (ops.size-3) true) (ops.size-2) oB (by simpa using hs) U (by rw [lA];simp) (λj u=>by rw [lA];simp;omega);rw [f] at this;cases this;have c:=D _ i (by simpa using hs) A;have O:¬ i<ops.size-2:=λh=>by have:=c.2.1;rw [lA,decide_eq_true h] at this;cases this
  have l:i=ops.size-2∨i=ops.size-1:=by have:=c.1;omega
  rcases l with rfl | rfl;refine qh C sA z.rm U (hg _ _ U) (v:=.undef) (m1:=m1) (by rw [← H];exact J.trans (by rw [e2])) (by simp) λak w2 q _=>?_;rw [← ab,qO];have sB:=sA.stepped q;refine⟨λf=>?_,λi A=>?_⟩;have:=I ((listed.setIfInBounds (ops.size-3) true).setIfInBounds (ops.size-2) true) (ops.size-1) oC (by simpa using hs) hC (by rw [X];simp) (λj u=>by rw [X];simp;omega);rw [f] at this;cases this;have c:=D _ i (by simpa using hs) A;have O:¬ i<ops.size-1:=λh=>by have:=c.2.1;rw [X,decide_eq_true h] at this;cases this
  obtain rfl:i=ops.size-1:=by have:=c.1;omega
  refine qh C (St.start q.rm sB.env) q.rm hC (hg _ _ hC) (v:=.undef) (m1:=m2) (by rw [← K];exact a0.trans (by rw [e3])) (by simp) λS w3 E _=>?_;rw [← ac,qO];exact a7 _ _ w3 S (λj u=>by rw [Y0 _ _ _ (by simp;omega),X];by_cases h:j=ops.size-1<;>simp [h];omega) (by simpa using hs) (z.trans (q.trans E)) (E.env sB.env) (iF _ _ _).2 (bH _ _ _)
  refine qh C (St.start z.rm sA.env) z.rm hC (hg _ _ hC) (v:=.undef) (m1:=mc) (by rw [← K];exact hc) (by simp) λak w2 q _=>?_;rw [← ac,qO];have sC:=sA.stepped q;refine⟨λf=>?_,λi A=>?_⟩;have:=I ((listed.setIfInBounds (ops.size-3) true).setIfInBounds (ops.size-1) true) (ops.size-2) oB (by simpa using hs) U (by rw [Y];simp;omega) (λj u=>by rw [Y];simp;omega);rw [f] at this;cases this;have c:=D _ i (by simpa using hs) A;have O:¬ (i<ops.size-2∨i=ops.size-1):=λh=>by have:=c.2.1;rw [Y,decide_eq_true h] at this;cases this
  obtain rfl:i=ops.size-2:=by have:=c.1;omega
  refine qh C sC q.rm U (hg _ _ U) (v:=.undef) (m1:=m2) (by rw [← H];exact hb) (by simp) λS w3 E _=>?_;rw [← ab,qO];exact a7 _ _ w3 S (λj u=>by rw [Y0 _ _ _ (by simp;omega),Y];by_cases h:j=ops.size-2<;>simp [h];omega) (by simpa using hs) (z.trans (q.trans E)) (E.env sC.env) (iF _ _ _).2 (bH _ _ _)
 exact absurd A (nB listed hs ae (by rw [hl];simp))
 ·
  refine qh C (St.start hm V) hm hC (hg _ _ hC) (v:=.undef) (m1:=mc) (by rw [← K];exact hc) (by simp) λar w1 z _=>?_;rw [← ac,qO];have an:=rC listed hs ae _ A;have a2:=z.env V;refine⟨λf=>?_,λi A=>?_⟩;have:=I (listed.setIfInBounds (ops.size-1) true) (ops.size-3) T (by simpa using hs) hA (by rw [lC];simp;omega) (λj u=>by rw [lC];simp;omega);rw [f] at this;cases this;have c:=D _ i (by simpa using hs) A;have O:¬ (i<ops.size-3∨i=ops.size-1):=λh=>by have:=c.2.1;rw [lC,decide_eq_true h] at this;cases this
  have l:i=ops.size-3∨i=ops.size-2:=by have:=c.1;omega
  rcases l with rfl | rfl;refine qh C (St.start z.rm a2) z.rm hA (hg _ _ hA) (a3 mc) a4 λak w2 q F=>?_;have sA:=a6 ak mc a ap (q.env a2) w2 q.rm F;refine⟨λf=>?_,λi A=>?_⟩;have:=I ((listed.setIfInBounds (ops.size-1) true).setIfInBounds (ops.size-3) true) (ops.size-2) oB (by simpa using hs) U (by rw [Z];simp;omega) (λj u=>by rw [Z];simp;omega);rw [f] at this;cases this;have c:=D _ i (by simpa using hs) A;have O:¬ (i<ops.size-2∨i=ops.size-1):=λh=>by have:=c.2.1;rw [Z,decide_eq_true h] at this;cases this
  obtain rfl:i=ops.size-2:=by have:=c.1;omega
  refine qh C sA q.rm U (hg _ _ U) (v:=.undef) (m1:=m2) (by rw [← H];exact hb) (by simp) λS w3 E _=>?_;rw [← ab,qO];exact a7 _ _ w3 S (λj u=>by rw [Y0 _ _ _ (by simp;omega),Z];by_cases h:j=ops.size-2<;>simp [h];omega) (by simpa using hs) (z.trans (q.trans E)) (E.env sA.env) (iF _ _ _).2 (bH _ _ _)
  exact absurd A (nB _ (by simpa using hs) an (by rw [lC];simp;omega))
theorem MP {ops:Array Oper}{k i:Nat}{o:Oper}(h:(ops.extract 0 k)[i]?=some o):ops[i]?=some o:=by rw [Array.getElem?_extract] at h;split at h;rw [aad] at h;exact h;cases h
theorem JJ {ops:Array Oper}(h:Jk (masks ops.toList) ops=true):3<=ops.size∧(∀(i:Nat) (o:Oper),ops[i]?=some o->o.guard=none)∧
  (∀(i:Nat) (o:Oper),ops[i]?=some o->∀e∈o.after,Region.binds .any e=true->e.on<i)∧(∀i,ops.size-3<=i->i<ops.size->∀j,j<ops.size-3->AJ ops i j)∧AJ ops (ops.size-2) (ops.size-3):=by
 simp only [Jk,q8,aa4,acj] at h;obtain⟨⟨⟨c,k⟩,l⟩,m⟩:=h;have c:3<=ops.size:=Xd c;have b:∀(i:Nat) (o:Oper),ops[i]?=some o->(∀e∈o.after,Region.binds .any e=true->e.on<i)∧o.guard=none:=λi o a=>by have:=k i (K9.1 a).1;rw [a] at this;simp only [q8,aa4] at this;refine⟨λe p n=>?_,Option.isNone_iff_eq_none.1 this.2⟩;have:=this.1 e (by simpa using p);rw [n] at this;simpa using this
 refine⟨c,λi o a=>(b i o a).2,λi o a=>(b i o a).1,λi s q j r=>?_,fE _ _ _ m⟩;obtain⟨⟨d,f⟩,g⟩:=l j r;have:i=ops.size-3∨i=ops.size-2∨i=ops.size-1:=by omega
 rcases this with rfl | rfl | rfl;exact fE _ _ _ d;exact fE _ _ _ f;exact fE _ _ _ g
def agZ (Q:Exit->Act->World->Prop)(N:Act->World->Prop):Exit->Act->World->Prop
 | .normal,b,w=>N b w
 | x,b,w=>Q x b w
theorem oN {cf:D7}(Z:P.follows .mixedOrders=true)(a1:nD P G cf)(slots:List Nat)(nt:Nat)(r:Option Nat):lK P G slots nt cf r:=by
 intro id ops ac au H a8 Q ir env m k ι w a outs hm ae a6 X aw hv hQ;simp only [Q0] at H;split at H;unfold DF at H;split at H;rename_i n l hd;split at H;rename_i ap;obtain⟨h3,hg,O,ad,aq⟩:=JJ ap;unfold CS at H;split at H;rename_i po d1 s v s' a' v' hx hy hz;split at H;rename_i a5;simp only [q8] at a5;cases H;have hv:bnd (bnd (uj l cf m.nx [] env (reserve n m) [reserve n m]) (gU k)) (λo=>bI.rec (bnd (bB [⟨.p po,none,none⟩,⟨.e (.store s (.loc 0) v),none,none⟩,⟨.e (.storeAp s' a' v' (.loc 1)),none,none⟩] cf [] o.env o.m) (gU o.marks))
  (λ_=>some [o]) (some [o]) o.x)=some outs:=hv
 obtain⟨os,I,hk⟩:=aD hv;obtain⟨es,a3,ah⟩:=aD I;refine wpIn_region_any Z ?_;have T:(ops.extract 0 (ops.size-3)).size=ops.size-3:=by rw [Array.size_extract];omega
 have h1:=BO (r:=r) a1 slots nt _ n l hd (λi o t ho ht=>jc a8 i o t (MP ho) ht)
  (agZ Q λb Y=>∃M∈es,∃D,M.px=none∧M.mks=[]∧Step P G ι m w D M.m Y∧R7 D (M.m.nm D) slots M.env b.tmps∧b.defers=a.defers∧b.tmps.size=a.tmps.size) env m ι w a es hm ae a6 a3
  (λM W J A D Y b B u q N=>⟨M,W,D,J,A,B,u,q,N⟩) ?_
 rw [T] at h1;have:=Gm (ops:=ops) (k:=ops.size-3) (Q:=Q) (Q1:=agZ Q _) (by omega) hg O ad (λc a w h=>h) (λ⟨a,w,h⟩=>⟨a,w,h⟩) ?_ (ops.size-3) (Array.replicate ops.size false) (Array.replicate (ops.size-3) false) a _ (by simp) (by simp)
  (λj=>by rw [Q5,Q5,acn,acn];split<;>split<;>rfl)
  (λi o h=>by rw [Q5,acn] at h;split at h<;>cases h)
  (by unfold sV;rw [agv.2 (λi _=>by rw [Q5,acn];split<;>rfl),agG]) h1
 rw [show ops.size-3+(ops.size-(ops.size-3))=ops.size from by omega] at this;exact this;rintro b Y ⟨M,W,D,J,A,B,u,q,N⟩ listed hls hcl hl;rw [show ops.size-(ops.size-3)=3 from by omega];obtain⟨os1,E,K⟩:=ah M W;obtain⟨d,C,g,f⟩:=M;obtain rfl:g=none:=J;obtain rfl:f=[]:=A;have E:ou .normal d C k=some os1:=E;cases E;obtain⟨os2,F,L⟩:=hk _ (K _ (aA.2 rfl));have F:bnd (bB [⟨.p po,none,none⟩,⟨.e (.store s (.loc 0) v),none,none⟩,⟨.e (.storeAp s' a' v' (.loc 1)),none,none⟩] cf [] d C) (gU k)=some os2:=F;obtain⟨av,ag,ao⟩:=aD F;refine PN a1 h3 hx hy hz a5.1 a5.2 (jc a8) hg O aq B.rm u (by rw [N];exact a6) ag ?_ hls hcl hl;intro e2 an aj ai al ar am a0 af a2 ab;obtain⟨os3,R,a7⟩:=ao e2 an;obtain⟨V,ak,aa,a9⟩:=e2;obtain rfl:aa=none:=aj;obtain rfl:a9=[]:=ai;have R:ou .normal V ak k=some os3:=R;cases R;exact hQ _ (L _ (a7 _ (aA.2 rfl))) al ar am (B.trans a0) af (ab.trans N) (by rw [a2,q];exact X.step (B.trans a0)) (aY rfl);intro M W y J A D Y b B U u q N;obtain⟨os1,E,K⟩:=ah M W;obtain⟨d,C,g,f⟩:=M;obtain rfl:g=some y:=J;obtain rfl:f=[]:=A;have E:some [(⟨.ret,d,C,k,some y⟩:Out)]=some os1:=E;cases E;obtain⟨os2,F,L⟩:=hk _ (K _ (aA.2 rfl));have F:some [(⟨.ret,d,C,k,some y⟩:Out)]=some os2:=F;cases F;exact hQ _ (L _ (aA.2 rfl)) D Y b B u N (by rw [q];exact X.step B) (λz hz=>by cases hz;exact⟨rfl,U⟩);cases H;cases H;cases H;cases H;have a4:∃n l,ac=.dreg n l:=by unfold yO at H;split at H;cases H;split at H;cases H;exact⟨_,_,rfl⟩;cases H
 obtain⟨n,l,rfl⟩:=a4;have hv:bnd (uj l cf m.nx [] env (reserve n m) [reserve n m]) (gU k)=some outs:=hv;obtain⟨es,a3,hk⟩:=aD hv;refine wpIn_region_any Z (BO a1 slots nt r ops n l H (jc a8) Q env m ι w a es hm ae a6 a3 ?_ ?_);intro e W J A D Y a' B u q T;obtain⟨os,I,S⟩:=hk e W;obtain⟨d,C,g,f⟩:=e;obtain rfl:g=none:=J;obtain rfl:f=[]:=A;have I:ou .normal d C k=some os:=I;cases I;exact hQ _ (S _ (aA.2 rfl)) D Y a' B u T (by rw [q];exact X.step B) (aY rfl);intro e W y J A D Y a' B U u q T;obtain⟨os,I,S⟩:=hk e W;obtain⟨d,C,g,f⟩:=e;obtain rfl:g=some y:=J;obtain rfl:f=[]:=A;have I:some [(⟨.ret,d,C,k,some y⟩:Out)]=some os:=I;cases I;exact hQ _ (S _ (aA.2 rfl)) D Y a' B u T (by rw [q];exact X.step B) (λz hz=>by cases hz;exact⟨rfl,U⟩)
end
section
variable {P:Program}{G:Mem}{ι:J5}{n:Nm}{m:Mem}{w:World}{slots:List Nat}
def qP (ι:J5):Option d9->FrameMode->Prop
 | some x,u=>u=.panicking [{v:=l9 ι x,recovered:=false}]
 | none,u=>u=.returning∨∃v,u=.panicking [{v,recovered:=true}]
theorem qP.settle {md:Option d9}{u:FrameMode}(h:qP ι md u):Go.settle u=xV ι md:=by
 cases md with
 | some x=>obtain rfl:u=_:=h;rfl
 | none=>rcases h with rfl | ⟨v,rfl⟩<;>rfl
theorem qP.of {a:Option d9}:qP ι a (xV ι a):=by
 cases a with
 | some x=>rfl
 | none=>exact .inl rfl
theorem qP.step {ι':J5}{m':Mem}{w':World}{a:Option d9}{u:FrameMode}(h:qP ι a u)(b:AB ι m a)(c:Step P G ι m w ι' m' w'):qP ι' a u:=by
 cases a with
 | some x=>have h:u=_:=h;have:=c.l9 (b x rfl);show u=.panicking [{v:=l9 ι' x,recovered:=false}];rw [this];exact h
 | none=>exact h
theorem Tv (i:Inst)(l:List Inst)(cf:D7)(ls:List d9)(env:T d9)(m:Mem)(md:Option d9):
  wE (i::l) cf ls env m md=match isRec i with
   | true=>match md with
    | some x=>wE l cf (x::ls) (bW i.dst x env) m none
    | none=>wE l cf (.nilIface::ls) (bW i.dst .nilIface env) m none
   | false=>match i.op with
    | .p o=>ob (FP i.guard (nN o) ls env) λv=>wE l cf (v::ls) (bW i.dst v env) m md
    | .r o=>ob (xA i.guard (rH o) ls env m) λv=>wE l cf (v::ls) (bW i.dst v env) m md
    | _=>none:=rfl
theorem vQ {ops:Array Oper}{o:Oper}{i:Nat}{c:List Nat}(j:ops[i]?=some o){b:List (Option Nat)}{ls:List d9}{env:T d9}{a:Act}{cs:List Frame}{Q:Exit->Act->List Frame->World->Prop}
  (s:St P ι n slots b ls env a.tmps) {g:Option (O8×Bool)} (f:nH ops b o.guard g) {v u:d9} (e:u=bi (tK g ls env) v .undef)
  (d:tK g ls env=true->(execOp a.eval o).run P w=.ok (.value (l9 ι v)) w) (h:wpOpsSIn Fence.wide 0 P ops Q c (a.put o.dst (l9 ι u)) cs w):
  wpOpsSIn Fence.wide 0 P ops Q (i::c) a cs w:=by
 simp only [wpOpsSIn,j];refine⟨λ_ _=>trivial,?_⟩;rw [nU s f];cases hb:tK g ls env with
 | true=>rw [hb] at e;obtain rfl:u=v:=e;simp only [if_true];rw [d hb];exact h
 | false=>rw [hb] at e;obtain rfl:u=.undef:=e;rw [lI] at h;simp only [aa9,if_false];exact h
theorem ZA (g:Option (O8×Bool))(f:PF)(ls:List d9)(env:T d9):FP g f ls env=bi (tK g ls env) (f ls env) (some .undef):=by cases g<;>rfl
theorem ZB (g:Option (O8×Bool))(f:RF)(ls:List d9)(env:T d9)(m:Mem):xA g f ls env m=bi (tK g ls env) (f ls env m) (some .undef):=by cases g<;>rfl
theorem adg {a:List (Option Nat)}{c:Op}{d:Uz}(h:.p d=kQ P slots a c):fV P slots a c=some (.p d):=by unfold kQ at h;split at h;rename_i e b;rw [b,← h];cases h
theorem adh {a:List (Option Nat)}{c:Op}{d:OG}(h:.r d=kQ P slots a c):fV P slots a c=some (.r d):=by unfold kQ at h;split at h;rename_i e b;rw [b,← h];cases h
theorem Wn {a:List (Option Nat)}{c:Op}(h:.e .recover=kQ P slots a c):fV P slots a c=some (.e .recover):=by unfold kQ at h;split at h;rename_i d b;rw [b,← h];cases h
theorem Wo {i:Inst}(h:isRec i=true):i.op=.e .recover∧i.guard=none:=by unfold isRec at h;split at h;exact⟨by assumption,by assumption⟩;cases h
theorem PO {cf:D7}{ops:Array Oper}{U:Nat}(O:∀(i:Nat)(o:Oper)(t:Tmp),ops[i]?=some o->o.dst=some t->t<U){Q:Exit->Act->List Frame->World->Prop}{c₀:Frame}{cs:List Frame}
  (hm:RM P G ι m w.heap):
  ∀(l:List Nat) (done:List (Option Nat)) (insts:List Inst),jW P slots ops done l=some insts->∀(ls:List d9) (env:T d9) (md:Option d9) (u:FrameMode) (a:Act) (outs:List (EM×Option d9)),
   U<=a.tmps.size->St P ι (m.nm ι) slots done ls env a.tmps->AB ι m md->qP ι md u->wE insts cf ls env m md=some outs->
   (∀r∈outs,∀u' a',r.1.m=m->R7 ι (m.nm ι) slots r.1.env a'.tmps->a'.defers=a.defers->a'.tmps.size=a.tmps.size->AB ι m r.2->qP ι r.2 u'->Q .normal a' ({c₀ with mode:=u'}::cs) w)->
   wpOpsSIn Fence.wide 0 P ops Q l a ({c₀ with mode:=u}::cs) w:=by
 intro l;induction l with
 | nil=>
  intro done insts M ls env md u a outs A s n f g N;simp only [jW,J3] at M;subst M;have g:some [((⟨env,m,none,[]⟩:EM),md)]=some outs:=by rw [← g,wE]
  cases g;exact N _ (aA.2 rfl) u a rfl s.env rfl rfl n f
 | cons i rest ih=>
  intro done insts M ls env md u a outs A s n f g N;obtain⟨x,d,l,hx,hl,rfl⟩:=qg M;obtain⟨o,C,rfl,L,h3,D⟩:=lJ hx;rw [Tv] at g;have j:∀(v:d9) (z:Option d9) (u':FrameMode),v.lt (m.nm ι)->AB ι m z->qP ι z u'->wE l cf (v::ls) (bW x.dst v env) m z=some outs->
    wpOpsSIn Fence.wide 0 P ops Q rest (a.put o.dst (l9 ι v)) ({c₀ with mode:=u'}::cs) w:=by
   intro v z u' R H B g;rw [h3] at g;have s':=s.put o.dst (λt ht=>gq (O i o t C ht) A) R;refine ih _ _ hl _ _ z u' (a.put o.dst (l9 ι v)) outs (by rw [bH];exact A) (by rw [(iF a o.dst (l9 ι v)).1];exact s') H B g ?_;intro r I S a' V W X Y Z e6;exact N r I S a' V W (by rw [X,(iF a o.dst _).2]) (Y.trans (bH a o.dst _)) Z e6
  cases I:isRec x with
  | true=>
   rw [I] at g;obtain⟨E,F⟩:=Wo I;rw [E] at L;rw [F] at D;have q:=Wn L;have hw:Region.wanted o (yielded ops a.tmps)=true:=by rw [nU s D];rfl
   have K:(execOp a.eval o).run P w=.ok .recover w:=by
    cases ho:o.op with
    | call c=>
     rw [ho] at q;cases yX q with
     | recover hcal=>simp [execOp,ho,resolve,hcal,invoke,builtin]
    | _=>rw [ho] at q;cases yX q
   simp only [wpOpsSIn,C];refine⟨λ_ _=>trivial,?_⟩;rw [hw,if_pos rfl,K];cases md with
   | some y=>obtain rfl:u=.panicking [{v:=l9 ι y,recovered:=false}]:=f;exact j y none (.panicking [{v:=l9 ι y,recovered:=true}]) (n y rfl) (λ_ h=>by cases h) (.inr ⟨_,rfl⟩) g
   | none=>
    have J:recoverD ({c₀ with mode:=u}::cs)=none:=by rcases f with rfl | ⟨v,rfl⟩<;>rfl
    show (match recoverD ({c₀ with mode:=u}::cs) with
     | some (v,cs')=>wpOpsSIn Fence.wide 0 P ops Q rest (a.put o.dst v) cs' w
     | none=>wpOpsSIn Fence.wide 0 P ops Q rest (a.put o.dst .nilIface) ({c₀ with mode:=u}::cs) w)
    rw [J];have:=j .nilIface none u trivial n f g;simp only [l9] at this;exact this
  | false=>
   rw [I] at g;obtain⟨op,dst,k⟩:=x;cases op with
   | p po=>
    have g:ob (FP k (nN po) ls env) (λv=>wE l cf (v::ls) (bW dst v env) m md)=some outs:=g;obtain⟨v,b,g⟩:=u6 g;rw [ZA] at b;have q:=adg L;cases hb:tK k ls env with
    | true=>rw [hb] at b;have b:nN po ls env=some v:=b;obtain⟨E,F⟩:=rT s q b;exact vQ C s D (v:=v) (u:=v) (by rw [hb];rfl) (λ_=>F o rfl w) (j v md u E n f g)
    | false=>rw [hb] at b;obtain rfl:d9.undef=v:=Y4 b;exact vQ C s D (v:=.undef) (u:=.undef) (by rw [hb];rfl) (λh=>by rw [hb] at h;cases h) (j .undef md u trivial n f g)
   | r ro=>
    have g:ob (xA k (rH ro) ls env m) (λv=>wE l cf (v::ls) (bW dst v env) m md)=some outs:=g;obtain⟨v,b,g⟩:=u6 g;rw [ZB] at b;have q:=adh L;cases hb:tK k ls env with
    | true=>rw [hb] at b;have b:rH ro ls env m=some v:=b;obtain⟨E,F⟩:=rU s hm (uJ q) b;exact vQ C s D (v:=v) (u:=v) (by rw [hb];rfl) (λ_=>F o rfl) (j v md u E n f g)
    | false=>rw [hb] at b;obtain rfl:d9.undef=v:=Y4 b;exact vQ C s D (v:=.undef) (u:=.undef) (by rw [hb];rfl) (λh=>by rw [hb] at h;cases h) (j .undef md u trivial n f g)
   | a _=>cases g
   | e _=>cases g
def Wp (P:Program)(G:Mem)(slots:List Nat)(nt:Nat)(cf:D7)(fuel:Nat)(c:Code)(ac:S9):Prop:=
 ∀(Q:Exit->Act->List Frame->World->Prop) (env:T d9) (m:Mem) (md:Option d9) (ι:J5) (w:World) (a:Act) (c₀:Frame) (cs:List Frame) (u:FrameMode) (outs:List Ll),
  RM P G ι m w.heap->R7 ι (m.nm ι) slots env a.tmps->nt<=a.tmps.size->a.defers=[]->AB ι m md->qP ι md u->QK ac cf fuel env m md=some outs->
  (∀r∈outs,∀ι' w' a' u',Step P G ι m w ι' r.o.m w'->R7 ι' (r.o.m.nm ι') slots r.o.env a'.tmps->a'.tmps.size=a.tmps.size->gJ ι' r.o.m r.o.marks a'.defers->Te ι' r.o->AB ι' r.o.m r.md->qP ι' r.md u'->Q (QZ ι' r.o) a' ({c₀ with mode:=u'}::cs) w')->
  c.wpSIn Fence.wide 0 P Q a ({c₀ with mode:=u}::cs) w
theorem dI {y:Nat}{cf:D7}(l:nD P G cf)(b:Nat)(d:lK P G slots y cf none){c:Code}{ac:S9}(F:Q0 P slots c=some ac)(K:tmpsIn y c=true)
  (p:∀env m md,QK ac cf b env m md=bnd (Cm ac cf b none env m []) λo=>some [⟨o,md⟩]):Wp P G slots y cf b c ac:=by
 intro Q env m md ι w a A N u C I n r f i j B E;rw [p] at B;obtain⟨L,s,H⟩:=aD B;refine wpSIn_of_wpIn rfl (su l b d c ac F K _ none env m [] ι w a L I n r ⟨by rw [f];rfl,λ_ h=>by cases h⟩ ⟨rfl,λ_ h=>by cases h⟩ s ?_);intro o J z M D e g x q t;obtain⟨O,v,k⟩:=H o J;cases v;exact E _ (k _ (aA.2 rfl)) z M D u e g x q t (i.step e).1 (j.step i e)
theorem Tw {nt:Nat}{cf:D7}(C:nD P G cf)(j:Nat)(i:lK P G slots nt cf none):∀(c:Code) (ac:S9),Q0 P slots c=some ac->tmpsIn nt c=true->Wp P G slots nt cf j c ac:=by
 intro c;induction c with
 | region id ops d=>
  intro ac f A;cases d with
  | true=>refine dI C j i f A ?_;rcases Pw f with⟨n,l,rfl⟩ | ⟨n,l,t,rfl⟩;exact λo m K=>rfl;exact λo m K=>rfl
  | false=>
   have a3:=f;simp only [Q0] at f;split at f;rename_i J hi;cases f;cases hr:OT J with
   | false=>refine dI C j i a3 A ?_;intro o m K;rw [QK,hr]
   | true=>intro Q o m K ι w a k O u outs L D E p I v H M;rw [QK,hr] at H;have H:bnd (wE J cf [] o m K) (λr=>some [⟨⟨.normal,r.1.env,r.1.m,[],none⟩,r.2⟩])=some outs:=H;obtain⟨os,U,hk⟩:=aD H;refine wpSIn_region (PO (jc A) L _ [] J hi [] o K u a os E (St.start L D) I v U ?_);intro r a4 u' V e1 e2 e3 e4 e5 e6;obtain⟨rs,a5,F⟩:=hk r a4;cases a5;obtain⟨⟨a1,Z,a8,a7⟩,a6⟩:=r;obtain rfl:Z=m:=e1;exact M _ (F _ (aA.2 rfl)) ι w V u' (Step.refl L) e2 e4 ⟨by rw [e3,p];rfl,λ_ h=>by cases h⟩ (aY rfl) e5 e6
   cases f
 | seq x y ihx ihy=>
  intro ac f A Q o m K ι w a k O u outs L D E p I v H M;simp only [tmpsIn,q8] at A;simp only [Q0] at f;split at f;rename_i cx cy hx hy;cases f;rw [QK] at H;obtain⟨os,U,hk⟩:=aD H;refine wpSIn_seq (ihx cx hx A.1 _ o m K ι w a k O u os L D E p I v U ?_);rintro⟨⟨x₀,env₀,m₀,k₀,pv₀⟩,md₀⟩ ho ι' w' V u' hst hen' hsz hmk' hpv hmd' hrel';obtain⟨os',B,F⟩:=hk _ ho;cases x₀ with
  | normal=>
   obtain rfl:pv₀=none:=lV hpv (by intro e;cases e);cases k₀ with
   | cons=>cases B
   | nil=>have B:QK cy cf j env₀ m₀ md₀=some os':=B;refine ihy cy hy A.2 Q env₀ m₀ md₀ ι' w' V k O u' os' hst.rm hen' (by rw [hsz];exact E) hmk'.1 hmd' hrel' B ?_;intro r hr a0 aa a2 a9 X R Y T W S N;exact M r (F _ hr) a0 aa a2 a9 (hst.trans X) R (Y.trans hsz) T W S N
  | exit id=>obtain rfl:pv₀=none:=lV hpv (by intro e;cases e);cases B;exact M _ (F _ (aA.2 rfl)) ι' w' V u' hst hen' hsz hmk' hpv hmd' hrel'
  | ret=>cases B;have:=M _ (F _ (aA.2 rfl)) ι' w' V u' hst hen' hsz hmk' hpv hmd' hrel';cases pv₀<;>exact this
  cases f
 | cond c x y ihx ihy=>
  intro ac f A Q o m K ι w a k O u outs L D E p I v H M;simp only [tmpsIn,q8] at A;simp only [Q0] at f;split at f;rename_i z cx cy hz hx hy;cases f;rw [QK] at H;obtain⟨t,h1,H⟩:=qJ H;obtain⟨e1,_⟩:=r9 (St.start L D) hz;refine wpSIn_cond (t:=t) (by rw [e1,h1];rfl) ?_;cases t with
  | true=>exact ihx cx hx A.1 Q o m K ι w a k O u outs L D E p I v H M
  | false=>exact ihy cy hy A.2 Q o m K ι w a k O u outs L D E p I v H M
  cases f
 | skip=>intro ac f A;simp only [Q0,J3] at f;subst f;exact dI C j i rfl A λ_ _ _=>rfl
 | exit id=>intro ac f A;simp only [Q0,J3] at f;subst f;exact dI C j i rfl A λ_ _ _=>rfl
 | ret=>intro ac f A;simp only [Q0,J3] at f;subst f;exact dI C j i rfl A λ_ _ _=>rfl
 | block id x _=>
  intro ac f A;have q:∃y,ac=.block id y:=by simp only [Q0] at f;split at f;cases f;exact⟨_,rfl⟩;cases f
  obtain⟨y,rfl⟩:=q;exact dI C j i f A λ_ _ _=>rfl
 | loop x _=>
  intro ac f A;have q:∃y,ac=.loop y:=by simp only [Q0] at f;split at f;cases f;exact⟨_,rfl⟩;cases f
  obtain⟨y,rfl⟩:=q;exact dI C j i f A λ_ _ _=>rfl
 | rangeFunc g ps x y _ _=>
  intro ac f A;have q:∃a b c d,ac=.rangeFunc a b c d:=by simp only [Q0] at f;split at f;cases f;exact⟨_,_,_,_,rfl⟩;cases f
  obtain⟨_,_,_,_,rfl⟩:=q;exact dI C j i f A λ_ _ _=>rfl
 | scope x ihx=>intro ac f;simp only [Q0] at f;cases f
 | label l=>intro ac f;simp only [Q0] at f;cases f
 | goto l=>intro ac f;simp only [Q0] at f;cases f
 | refuse s=>intro ac f _ Q o m K ι w a k O u outs L D E p I v H M;simp only [Q0,J3] at f;subst f;have H:(none:Option (List Ll))=some outs:=H;cases H
theorem Hz {K:Known}(k:∀f sf,K.fns f=some sf->qx P f sf){cf:D7}(y:nD P G cf)(b:Nat)(g:∀slots nt r,lK P G slots nt cf r):Zq P G (sP K cf b):=by
 intro f C s m q h;obtain⟨sf,T,h⟩:=u6 h;obtain⟨A,slots,x,c,ac,rs,L,M,N,O,Q,R,S,F,H,I,e4,J⟩:=k f sf T;refine⟨A,λ{ι w} hm hargs hmd=>?_⟩;obtain⟨D,U,h⟩:=u6 h;obtain rfl:=J D U;obtain⟨u,E,h⟩:=u6 h;obtain⟨Z,B,W⟩:=aD h;rw [F,H] at E;obtain⟨q1,q2,q3⟩:=Ht R S hargs E;refine callsDIn_of_wpSIn L M trivial λc₀ t Y=>?_;have e:({c₀ with mode:=xV ι s}:Frame)=c₀:=by rw [← Y]
 rw [← e];refine Tw y b (g slots x.ntmps none) c D N Q _ u m s ι w _ c₀ t (xV ι s) Z hm q2 q3 rfl hmd qP.of B ?_;rintro⟨⟨x₀,env₀,m₀,k₀,pv₀⟩,md₀⟩ ho ι' w' a' u' hst hen' hsz hmk' hpv hmd' hrel';obtain⟨vs,a,o⟩:=W _ ho;have i:k₀=[]∧pv₀=none∧(∀id,x₀≠.exit id)∧∃l,results sf.results env₀ m₀=some l∧vs=[(m₀,md₀)]:=by
  have a:Vq sf.results ⟨⟨x₀,env₀,m₀,k₀,pv₀⟩,md₀⟩=some vs:=a;have p:ob (results sf.results env₀ m₀) (λ_=>some [(m₀,md₀)])=some vs->∃l,results sf.results env₀ m₀=some l∧vs=[(m₀,md₀)]:=by intro h;obtain⟨l,X,h⟩:=u6 h;cases h;exact⟨l,X,rfl⟩
  cases x₀ with
  | exit id=>cases k₀<;>cases pv₀<;>cases a
  | normal=>
   cases k₀ with
   | cons=>cases pv₀<;>cases a
   | nil=>
    cases pv₀ with
    | some=>cases a
    | none=>exact⟨rfl,rfl,(λid h=>by cases h),p a⟩
  | ret=>
   cases k₀ with
   | cons=>cases pv₀<;>cases a
   | nil=>
    cases pv₀ with
    | some=>cases a
    | none=>exact⟨rfl,rfl,(λid h=>by cases h),p a⟩
 obtain⟨rfl,rfl,z,l,d,rfl⟩:=i;rw [I] at d;obtain⟨r1,r2⟩:=wY hst.rm hen' _ rs O l d;have V:a'.defers=[]:=hmk'.1;have n:(Go.results x a'.tmps).run P w'=.ok (l9 ι' (result l)) w':=by rw [Hr,Et,ai0];simp only [Xb,map_eq_pure_bind,bind_assoc,pure_bind];rw [r2];simp
 have j:a'.defers=[]∧∃u'',(({c₀ with mode:=u'}:Frame)::t)=({({c₀ with mode:=xV ι s}:Frame) with mode:=u''}:Frame)::t∧∃v,(Go.results x a'.tmps).run P w'=.ok v w'∧
   ∃v',Ending.returned v=.returned v'∧∃r∈q,∃ι',Step P G ι m w ι' r.1 w'∧AB ι' r.1 r.2∧settle u''=xV ι' r.2:=
  ⟨V,u',rfl,_,n,_,rfl,(m₀,md₀),o _ (aA.2 rfl),ι',hst,hmd',hrel'.settle⟩
 cases x₀ with
 | normal=>exact j
 | ret=>exact j
 | exit id=>exact absurd rfl (z id)
end
section
variable {P:Program}{ι ι':J5}{n n':Nm}{r:Nat->Option Nat}
def BP (ι:J5)(n:Nm)(ι':J5)(n':Nm)(r:Nat->Option Nat):Prop:=∀i j,r i=some j->n i->n' j∧ι' j=ι i∧n'.cap j=n.cap i
mutual
theorem oO (hr:BP ι n ι' n' r):∀(v v':d9),fA r v=some v'->v.lt n->l9 ι' v'=l9 ι v∧v'.lt n'
 | .undef,v',h,_ | .bool _,v',h,_ | .int _ _,v',h,_ | .str _,v',h,_ | .nilPtr,v',h,_ | .nilSlice,v',h,_ | .nilMap,v',h,_ | .nilFunc,v',h,_ | .nilIface,v',h,_=>by simp only [fA,J3] at h;subst h;simp [l9,d9.lt]
 | .ptr i o,v',h,hv=>by simp only [fA] at h;obtain⟨j,h1,h2⟩:=u6 h;cases h2;obtain⟨g1,g2,g3⟩:=hr i j h1 hv;exact⟨by simp [l9,J5.at,g2],g1⟩
 | .slice i o l c,v',h,hv=>by simp only [fA] at h;obtain⟨j,h1,h2⟩:=u6 h;cases h2;obtain⟨g1,g2,g3⟩:=hr i j h1 hv;exact⟨by simp [l9,J5.at,g2],g1⟩
 | .sliceU i o l c,v',h,hv=>by simp only [fA] at h;obtain⟨j,h1,h2⟩:=u6 h;cases h2;obtain⟨g1,g2,g3⟩:=hr i j h1 hv.1;exact⟨by simp [l9,J5.at,g2],g1,hv.2.1,by rw [g3];exact hv.2.2⟩
 | .map i,v',h,hv=>by simp only [fA] at h;obtain⟨j,h1,h2⟩:=u6 h;cases h2;obtain⟨g1,g2,g3⟩:=hr i j h1 hv;exact⟨by simp [l9,g2],g1⟩
 | .func fn a b,v',h,hv=>by
  obtain⟨h1,h2,h3⟩:=hv;have key:∀v',(ob (kP r a) λx=>ob (kP r b) λy=>some (d9.func fn x y))=some v'->(∀l,fn≠.yield l)->l9 ι' v'=l9 ι (.func fn a b)∧v'.lt n':=by
   intro v' h hn;obtain⟨x,h4,h⟩:=u6 h;obtain⟨y,h5,h⟩:=u6 h;cases h;obtain⟨g1,g2⟩:=jA hr a x h4 h2;obtain⟨g3,g4⟩:=jA hr b y h5 h3;have e:jq ι' fn=jq ι fn:=by cases fn<;>first | rfl | exact absurd rfl (hn _)
   refine⟨by simp [l9,g1,g3,e],?_,g2,g4⟩;cases fn<;>first | trivial | exact absurd rfl (hn _)
  cases fn with
  | yield l=>simp only [fA] at h;cases h
  | func f=>exact key v' (by simpa only [fA] using h) (by simp)
  | method f=>exact key v' (by simpa only [fA] using h) (by simp)
  | methodOf f g=>exact key v' (by simpa only [fA] using h) (by simp)
  | via f g x y=>exact key v' (by simpa only [fA] using h) (by simp)
 | .iface t v,v',h,hv=>by simp only [fA] at h;obtain⟨x,h1,h2⟩:=u6 h;cases h2;obtain⟨g1,g2⟩:=oO hr v x h1 hv;exact⟨by simp [l9,g1],g2⟩
 | .agg l,v',h,hv=>by simp only [fA] at h;obtain⟨x,h1,h2⟩:=u6 h;cases h2;obtain⟨g1,g2⟩:=jA hr l x h1 hv;exact⟨by simp [l9,g1],g2⟩
 | .tuple l,v',h,hv=>by simp only [fA] at h;obtain⟨x,h1,h2⟩:=u6 h;cases h2;obtain⟨g1,g2⟩:=jA hr l x h1 hv;exact⟨by simp [l9,g1],g2⟩
 | .mq v,v',h,hv=>by simp only [d9.lt] at hv
theorem jA (hr:BP ι n ι' n' r):∀(l l':List d9),kP r l=some l'->aM n l->o9 ι' l'=o9 ι l∧aM n' l'
 | [],l',h,_=>by simp only [kP,J3] at h;subst h;simp [o9,aM]
 | v::l,l',h,hv=>by simp only [kP] at h;obtain⟨x,h1,h⟩:=u6 h;obtain⟨y,h2,h⟩:=u6 h;cases h;obtain⟨g1,g2⟩:=oO hr v x h1 hv.1;obtain⟨g3,g4⟩:=jA hr l y h2 hv.2;exact⟨by simp [o9,g1,g3],g2,g4⟩
end
theorem BQ (hr:BP ι n ι' n' r):∀(l l':List (List d9)),ow r l=some l'->(∀x∈l,aM n x)->l'.length=l.length∧∀(i:Nat) x,l[i]?=some x->∃x',l'[i]?=some x'∧o9 ι' x'=o9 ι x∧aM n' x'
 | [],l',h,_=>by simp only [ow,J3] at h;subst h;simp
 | v::l,l',h,hv=>by
  simp only [ow] at h;obtain⟨x,h1,h⟩:=u6 h;obtain⟨y,h2,h⟩:=u6 h;cases h;obtain⟨g1,g2⟩:=jA hr v x h1 (hv v (by simp));obtain⟨g3,g4⟩:=BQ hr l y h2 (λx hx=>hv x (by simp [hx]));refine⟨by simp [g3],λi u hu=>?_⟩;cases i with
  | zero=>simp at hu;subst hu;exact⟨x,rfl,g1,g2⟩
  | succ i=>obtain⟨x',h3,h4⟩:=g4 i u (by simpa using hu);exact⟨x',by simpa using h3,h4⟩
theorem Ey (hr:BP ι n ι' n' r):∀(l l':List (d9×d9)),Cn r l=some l'->(∀e∈l,e.1.lt n∧e.2.lt n)->l'.length=l.length∧(∀k,I6 ι' l' k=I6 ι l k)∧∀e∈l',e.1.lt n'∧e.2.lt n'
 | [],l',h,_=>by simp only [Cn,J3] at h;subst h;simp [I6]
 | e::l,l',h,hv=>by simp only [Cn] at h;obtain⟨x,h1,h⟩:=u6 h;obtain⟨y,h2,h⟩:=u6 h;obtain⟨z,h3,h⟩:=u6 h;cases h;obtain⟨g1,g2⟩:=oO hr e.1 x h1 (hv e (by simp)).1;obtain⟨g3,g4⟩:=oO hr e.2 y h2 (hv e (by simp)).2;obtain⟨g5,g6,g7⟩:=Ey hr l z h3 (λx hx=>hv x (by simp [hx]));refine⟨by simp [g5],λk=>by simp [I6,g1,g3,g6],λu hu=>?_⟩;rcases Z4.1 hu with rfl | hu;exact⟨g2,g4⟩;exact g7 u hu
theorem Tx {b:O6}{a:NB}(h:xE b=some a):bV b=false:=by cases b<;>first | rfl | (simp [xE] at h)
theorem Ez (a:NB):bV (iU a)=false:=by cases a<;>rfl
theorem EB {r:Nat->Option Nat}{b:O6}{c a:NB}(h:xE b=some c)(h':pI r c=some a):R8 (iU a)=R8 b:=by
 cases b<;>simp only [xE,J3,reduceCtorEq] at h
 subst h;simp only [pI,J3] at h';subst h';rfl;obtain⟨l,_,h⟩:=u6 h;cases h;simp only [pI] at h';obtain⟨x,_,h'⟩:=u6 h';cases h';rfl;subst h;simp only [pI] at h';obtain⟨x,_,h'⟩:=u6 h';cases h';rfl;subst h;simp only [pI] at h';obtain⟨x,_,h'⟩:=u6 h';cases h';rfl
theorem JK (D:BP ι n ι' n' r){h:Array Obj}{l:Loc}{b:O6}{I y:NB}(hb:dF P ι n h l b)(p:xE b=some I)(a:pI r I=some y):dF P ι' n' h l (iU y):=by
 cases b<;>simp only [xE,J3,reduceCtorEq] at p
 subst p;simp only [pI,J3] at a;subst a;exact trivial;rename_i rs k A;obtain⟨z,U,p⟩:=u6 p;cases p;simp only [pI] at a;obtain⟨d,v,a⟩:=u6 a;cases a;obtain⟨c,e,Q,t,u,⟨M,N,Y,Z,_⟩,H⟩:=hb;obtain⟨K,X⟩:=T.OY _ _ _ _ U;have g:∀i x,z[i]?=some x->i<k∧A.get i=some x:=λi x s=>by
  have o:i<k:=by have:=(Hl.1 s).1;omega
  have:=X i o;rw [aad,s] at this;exact⟨o,this⟩
 have C:∀x∈z,aM n x:=λx s=>by obtain⟨i,o⟩:=aai s;obtain⟨f,m⟩:=g i x o;obtain⟨G,B,E,F,q4⟩:=H i f;rw [m] at B;cases B;exact F
 obtain⟨f,m⟩:=BQ D z d v C;refine⟨c,e,Q,t,u,⟨by rw [I5,f,K];exact M,d.length,(by rw [I5];exact J2 _),T.eB d,by rw [I5];exact uD (T.eB d)⟩,λi o=>?_⟩;rw [I5,f,K] at o;have s:z[i]?=some (z[i]'(by omega)):=q9 (by omega);obtain⟨L,B,E,F⟩:=m i _ s;obtain⟨_,S⟩:=g i _ s;obtain⟨G,J,p2,p3,W⟩:=H i o;rw [S] at J;cases J;have w:L.length=rs:=by have:=congrArg List.length E;simp only [U0] at this;omega
 refine⟨L,by rw [T.aC];exact B,w,F,λj V=>?_⟩;rw [W j V,← aG,← aG,E];subst p;simp only [pI] at a;obtain⟨O,v,a⟩:=u6 a;cases a;obtain⟨t,u⟩:=hb;obtain⟨f,m,R⟩:=Ey D _ _ v u;exact⟨by rw [m,f];exact t,R⟩;subst p;simp only [pI] at a;obtain⟨q,v,a⟩:=u6 a;cases a;obtain⟨t,u⟩:=hb;obtain⟨f,m,_⟩:=D _ _ v t;exact⟨f,by rw [m];exact u⟩
mutual
theorem qQ {r1 r2:Nat->Option Nat}:∀(v u t:d9),fA r1 v=some u->fA r2 u=some t->fA (λi=>ob (r1 i) r2) v=some t
 | .undef,u,t,h,h' | .bool _,u,t,h,h' | .int _ _,u,t,h,h' | .str _,u,t,h,h' | .nilPtr,u,t,h,h' | .nilSlice,u,t,h,h' | .nilMap,u,t,h,h' | .nilFunc,u,t,h,h' | .nilIface,u,t,h,h'=>by simp only [fA,J3] at h;subst h;simpa only [fA] using h'
 | .ptr i o,u,t,h,h' | .slice i o _ _,u,t,h,h' | .sliceU i o _ _,u,t,h,h' | .map i,u,t,h,h'=>by simp only [fA] at h;obtain⟨j,h1,h2⟩:=u6 h;cases h2;simp only [fA] at h' ⊢;obtain⟨k,h3,h4⟩:=u6 h';rw [h1,K4,h3];exact h4
 | .func fn a b,u,t,h,h'=>by
  cases fn with
  | yield l=>simp only [fA] at h;cases h
  | _=>simp only [fA] at h;obtain⟨x,h1,h⟩:=u6 h;obtain⟨y,h2,h⟩:=u6 h;cases h;simp only [fA] at h' ⊢;obtain⟨x',h3,h'⟩:=u6 h';obtain⟨y',h4,h'⟩:=u6 h';rw [qR a x x' h1 h3,K4,qR b y y' h2 h4];exact h'
 | .iface ty v,u,t,h,h'=>by simp only [fA] at h;obtain⟨x,h1,h⟩:=u6 h;cases h;simp only [fA] at h' ⊢;obtain⟨x',h3,h'⟩:=u6 h';rw [qQ v x x' h1 h3];exact h'
 | .mq v,u,t,h,h'=>by simp only [fA] at h;cases h
 | .agg l,u,t,h,h' | .tuple l,u,t,h,h'=>by simp only [fA] at h;obtain⟨x,h1,h⟩:=u6 h;cases h;simp only [fA] at h' ⊢;obtain⟨x',h3,h'⟩:=u6 h';rw [qR l x x' h1 h3];exact h'
theorem qR {r1 r2:Nat->Option Nat}:∀(v u t:List d9),kP r1 v=some u->kP r2 u=some t->kP (λi=>ob (r1 i) r2) v=some t
 | [],u,t,h,h'=>by simp only [kP,J3] at h;subst h;simpa only [kP] using h'
 | v::l,u,t,h,h'=>by simp only [kP] at h;obtain⟨x,h1,h⟩:=u6 h;obtain⟨y,h2,h⟩:=u6 h;cases h;simp only [kP] at h' ⊢;obtain⟨x',h3,h'⟩:=u6 h';obtain⟨y',h4,h'⟩:=u6 h';rw [qQ v x x' h1 h3,K4,qR l y y' h2 h4];exact h'
end
theorem EC {r1 r2:Nat->Option Nat}:∀(v u t:List (List d9)),ow r1 v=some u->ow r2 u=some t->ow (λi=>ob (r1 i) r2) v=some t
 | [],u,t,h,h'=>by simp only [ow,J3] at h;subst h;simpa only [ow] using h'
 | v::l,u,t,h,h'=>by simp only [ow] at h;obtain⟨x,h1,h⟩:=u6 h;obtain⟨y,h2,h⟩:=u6 h;cases h;simp only [ow] at h' ⊢;obtain⟨x',h3,h'⟩:=u6 h';obtain⟨y',h4,h'⟩:=u6 h';rw [qR v x x' h1 h3,K4,EC l y y' h2 h4];exact h'
theorem HV {r1 r2:Nat->Option Nat}:∀(v u t:List (d9×d9)),Cn r1 v=some u->Cn r2 u=some t->Cn (λi=>ob (r1 i) r2) v=some t
 | [],u,t,h,h'=>by simp only [Cn,J3] at h;subst h;simpa only [Cn] using h'
 | e::l,u,t,h,h'=>by simp only [Cn] at h;obtain⟨x,h1,h⟩:=u6 h;obtain⟨y,h2,h⟩:=u6 h;obtain⟨z,h3,h⟩:=u6 h;cases h;simp only [Cn] at h' ⊢;obtain⟨x',h4,h'⟩:=u6 h';obtain⟨y',h5,h'⟩:=u6 h';obtain⟨z',h6,h'⟩:=u6 h';rw [qQ e.1 x x' h1 h4,K4,qQ e.2 y y' h2 h5,K4,HV l z z' h3 h6];exact h'
theorem Tz {d e:Nat->Option Nat}{v u t:NB}(h:pI d v=some u)(h':pI e u=some t):pI (λi=>ob (d i) e) v=some t:=by
 cases v<;>simp only [pI] at h
 obtain⟨x,a,h⟩:=u6 h;cases h;simp only [pI] at h' ⊢;obtain⟨c,b,h'⟩:=u6 h';rw [EC _ x c a b];exact h';obtain⟨x,a,h⟩:=u6 h;cases h;simp only [pI] at h' ⊢;obtain⟨c,b,h'⟩:=u6 h';rw [HV _ x c a b];exact h';obtain⟨x,a,h⟩:=u6 h;cases h;simp only [pI] at h' ⊢;obtain⟨c,b,h'⟩:=u6 h';rw [a,K4,b];exact h';cases h;exact h'
theorem vR {r:Nat->Option Nat}:∀(l l':List NB),wM r l=some l'->l'.length=l.length∧∀(i:Nat) x,l'[i]?=some x->∃y,l[i]?=some y∧pI r y=some x
 | [],l',h=>by simp only [wM,J3] at h;subst h;simp
 | v::l,l',h=>by
  simp only [wM] at h;obtain⟨x,h1,h⟩:=u6 h;obtain⟨y,h2,h⟩:=u6 h;cases h;obtain⟨g1,g2⟩:=vR l y h2;refine⟨by simp [g1],λi u hu=>?_⟩;cases i with
  | zero=>simp at hu;subst hu;exact⟨v,rfl,h1⟩
  | succ i=>obtain⟨z,h3,h4⟩:=g2 i u (by simpa using hu);exact⟨z,by simpa using h3,h4⟩
mutual
theorem CX (lo:Nat):∀(v:d9),∀i∈FT lo v,lo<=i
 | .ptr i _,j,h | .slice i _ _ _,j,h | .sliceU i _ _ _,j,h | .map i,j,h=>by
  simp only [FT] at h;cases hb:Nat.ble lo i with
  | true=>rw [hb] at h;obtain rfl:=aA.1 h;exact Xd hb
  | false=>rw [hb] at h;cases h
 | .func fn a b,j,h=>by simp only [FT] at h;rcases aae.1 h with h | h;exact vS lo a j h;exact vS lo b j h
 | .iface _ v,j,h=>by simp only [FT] at h;exact CX lo v j h
 | .agg l,j,h | .tuple l,j,h=>by simp only [FT] at h;exact vS lo l j h
 | .undef,j,h | .bool _,j,h | .int _ _,j,h | .str _,j,h | .nilPtr,j,h | .nilSlice,j,h | .nilMap,j,h | .nilFunc,j,h | .nilIface,j,h | .mq _,j,h=>by simp only [FT] at h;cases h
theorem vS (lo:Nat):∀(l:List d9),∀i∈tF lo l,lo<=i
 | [],j,h=>by simp only [tF] at h;cases h
 | v::l,j,h=>by simp only [tF] at h;rcases aae.1 h with h | h;exact CX lo v j h;exact vS lo l j h
end
theorem MQ (lo:Nat):∀(l:List (List d9)),∀i∈Li lo l,lo<=i
 | [],j,h=>by simp only [Li] at h;cases h
 | v::l,j,h=>by simp only [Li] at h;rcases aae.1 h with h | h;exact vS lo v j h;exact MQ lo l j h
theorem Rh (lo:Nat):∀(l:List (d9×d9)),∀i∈Vo lo l,lo<=i
 | [],j,h=>by simp only [Vo] at h;cases h
 | e::l,j,h=>by simp only [Vo] at h;rcases aae.1 h with h | h;exact CX lo _ j h;rcases aae.1 h with h | h;exact CX lo _ j h;exact Rh lo l j h
theorem ZC (lo:Nat)(b:NB):∀i∈Lj lo b,lo<=i:=by
 intro i h;cases b with
 | cells rs rows=>exact MQ lo rows i h
 | map es=>exact Rh lo es i h
 | tail p=>
  simp only [Lj] at h;cases hb:Nat.ble lo p with
  | true=>rw [hb] at h;obtain rfl:=aA.1 h;exact Xd hb
  | false=>rw [hb] at h;cases h
 | dead=>cases h
def Good (m:Mem)(lo:Nat)(l:List (Nat×NB)):Prop:=(∀p∈l,lo<=p.1∧∃b,m.get p.1=some b∧xE b=some p.2)∧(l.map (·.1)).Nodup
theorem ED (n:Nat):∀l:List (Nat×NB),Gz n l=true∨n∉l.map (·.1)
 | []=>.inr (by simp)
 | x::l=>by
  show bi (Nat.beq x.1 n) true (Gz n l)=true∨_;cases hb:Nat.beq x.1 n with
  | true=>exact .inl rfl
  | false=>rcases ED n l with h | h;exact .inl h;refine .inr λhm=>?_;rcases Z4.1 (by simpa using hm:n∈x.1::l.map (·.1)) with h1 | h1;rw [h1,aah] at hb;cases hb;exact h h1
theorem PS {m:Mem}{lo:Nat}:∀(k:Nat) (work:List Nat) (seen out:List (Nat×NB)),(∀i∈work,lo<=i)->Good m lo seen->reach m lo k work seen=some out->Good m lo out:=by
 intro k;induction k with
 | zero=>intro work seen out _ _ h;cases h
 | succ k ih=>
  intro work seen out f c h;cases work with
  | nil=>have h:some seen.reverse=some out:=h;cases h;exact⟨λp d=>c.1 p (ai6.1 d),by rw [List.map_reverse];exact List.pairwise_reverse.2 (c.2.imp λh e=>h e.symm)⟩
  | cons i work=>
   have h:bi (Gz i seen) (reach m lo k work seen) (ob (m.get i) λb=>ob (xE b) λg=>reach m lo k (Lj lo g++work) ((i,g)::seen))=some out:=h;rcases ED i seen with h1 | h1;rw [h1] at h;exact ih work seen out (λj a=>f j (by simp [a])) c h;cases hb:Gz i seen with
   | true=>rw [hb] at h;exact ih work seen out (λj a=>f j (by simp [a])) c h
   | false=>rw [hb] at h;obtain⟨b,l,h⟩:=u6 h;obtain⟨g,n,h⟩:=u6 h;refine ih _ _ out (λj a=>?_) ⟨λp d=>?_,?_⟩ h;rcases aae.1 a with a | a;exact ZC lo g j a;exact f j (by simp [a]);rcases Z4.1 d with rfl | d;exact⟨f i (by simp),b,l,n⟩;exact c.1 p d;rw [Z6];exact ad1.2 ⟨h1,c.2⟩
theorem zD (i:Nat):∀(l:List Nat) (k j:Nat),placeOf i l k=some j->k<=j∧l[j-k]?=some i
 | [],k,j,h=>by cases h
 | x::l,k,j,h=>by
  have h:bi (Nat.beq x i) (some k) (placeOf i l (k+1))=some j:=h;cases hb:Nat.beq x i with
  | true=>rw [hb] at h;cases h;rw [gI hb];simp
  | false=>rw [hb] at h;obtain⟨h1,h2⟩:=zD i l (k+1) j h;exact⟨by omega,by rw [show j-k=(j-(k+1))+1 from by omega];simpa using h2⟩
theorem HY {lo i j:Nat}{a:List Nat}(h:wD lo a i=some j):(i<lo∧j=i)∨(lo<=i∧lo<=j∧a[j-lo]?=some i):=by
 unfold wD at h;cases hb:Nat.ble lo i with
 | true=>rw [hb] at h;obtain⟨b,c⟩:=zD i a lo j h;exact .inr ⟨Xd hb,b,c⟩
 | false=>rw [hb] at h;have h:some i=some j:=h;cases h;exact .inl ⟨Nat.lt_of_not_le (GV hb),rfl⟩
theorem sF {m:Mem}{lo:Nat}{a:List d9}{c:CO}(h:ji lo a m=some c):∃seen,Good m lo seen∧c.ids=seen.map (·.1)∧kP (wD lo c.ids) a=some c.vs∧wM (wD lo c.ids) (seen.map (·.2))=some c.bs:=by obtain⟨seen,b,h⟩:=u6 h;obtain⟨f,d,h⟩:=u6 h;obtain⟨bs,e,h⟩:=u6 h;cases h;exact⟨seen,PS _ _ _ _ (vS lo a) ⟨(λp (hp:p∈([]:List (Nat×NB)))=>by cases hp),(by simp:(([]:List (Nat×NB)).map (·.1)).Nodup)⟩ b,rfl,d,e⟩
theorem MR (b:NB)(a:List NB)(m:Mem):layAll (b::a) m=layAll a (m.new (iU b)):=rfl
theorem qj:∀(bs:List NB) (m:Mem),T.Ok m.t m.nx->T.Ok (layAll bs m).t (layAll bs m).nx∧(layAll bs m).nx=m.nx+bs.length∧(layAll bs m).lim=m.lim∧
  ∀i,(layAll bs m).get i=if i<m.nx then m.get i else (bs[i-m.nx]?).map iU
 | [],m,h=>by
  refine⟨h,rfl,rfl,λi=>?_⟩;show m.get i=_;split;rfl;rename_i hi;cases hg:m.get i with
  | none=>simp
  | some x=>exact absurd (Mem.H9 h hg) hi
 | b::bs,m,h=>by obtain⟨h1,h2,h3,h4⟩:=qj bs (m.new (iU b)) (h.push _);rw [MR];refine⟨h1,by rw [h2];simp;omega,h3,λi=>?_⟩;rw [h4,Mem.LA,Mem.J8 h];by_cases hi:i<m.nx;rw [if_pos (by omega),if_neg (by omega),if_pos hi];by_cases he:i=m.nx;subst he;rw [if_pos (by omega),if_pos rfl,if_neg (by omega)];simp;rw [if_neg (by omega),if_neg hi,show i-m.nx=(i-(m.nx+1))+1 from by omega];simp
end
section
variable {P:Program}{G:Mem}{ι:J5}{m:Mem}{w:World}
structure EG (G:Mem)(Df:List NB):Prop where
 ok:T.Ok G.t G.nx
 len:Df.length=G.nx
 get:∀i,i<G.nx->G.get i=(Df[i]?).map iU
 shut:∀nb∈Df,pI (λi=>bi (Nat.blt i G.nx) (some i) none) nb=some nb
noncomputable abbrev U4 (G:Mem)(bs:List NB):Mem:=(layAll bs G).shut
def kH (P:Program)(G:Mem)(f:FuncId)(args:List d9)(bs:List NB)(a:Br):Prop:=
 ∀(ι:J5) (w:World),RM P G ι (U4 G bs) w.heap->aM ((U4 G bs).nm ι) args->
  CallsIn Fence.wide 0 P f (o9 ι args).toArray w λe w'=>∃ι' r,Step P G ι (U4 G bs) w ι' r.m w'∧r.v.lt (r.m.nm ι')∧e=.returned (l9 ι' r.v)∧Bt (layAll bs G).nx r=some a
theorem BR:∀a b:List (List d9),Ah a b=true->a=b
 | [],[],_=>rfl
 | [],_ :: _,h=>by simp only [Ah] at h;cases h
 | _ :: _,[],h=>by simp only [Ah] at h;cases h
 | x::a,y::b,h=>by simp only [Ah] at h;obtain⟨h1,h2⟩:=cB h;rw [lM (jw 100) _ _ h1,BR a b h2]
theorem EH:∀a b:List (d9×d9),GA a b=true->a=b
 | [],[],_=>rfl
 | [],_ :: _,h=>by simp only [GA] at h;cases h
 | _ :: _,[],h=>by simp only [GA] at h;cases h
 | x::a,y::b,h=>by simp only [GA] at h;obtain⟨h1,h2⟩:=cB h;obtain⟨h2,h3⟩:=cB h2;have e1:=jw 100 _ _ h1;have e2:=jw 100 _ _ h2;obtain⟨x1,x2⟩:=x;obtain⟨y1,y2⟩:=y;have e1:x1=y1:=e1;have e2:x2=y2:=e2;rw [e1,e2,EH a b h3]
theorem PU:∀a b:NB,Vp a b=true->a=b:=by
 intro a b h;cases a<;>cases b<;>simp only [Vp] at h<;>first | (cases h;done) | skip
 obtain⟨c,d⟩:=cB h;rw [gI c,BR _ _ d];rw [EH _ _ h];rw [gI h];rfl
theorem ql:∀a b:List NB,kZ a b=true->a=b
 | [],[],_=>rfl
 | [],_ :: _,h=>by simp only [kZ] at h;cases h
 | _ :: _,[],h=>by simp only [kZ] at h;cases h
 | x::a,y::b,h=>by simp only [kZ] at h;obtain⟨h1,h2⟩:=cB h;rw [PU _ _ h1,ql a b h2]
theorem uU {lo:Nat}:∀(l:List VM) (a:Br),Jh lo l=some a->∀r∈l,Bt lo r=some a
 | [],a,h,r,hr=>by cases hr
 | [x],a,h,r,hr=>by obtain rfl:=aA.1 hr;obtain⟨b,h1,h2⟩:=u6 h;have h2:some b=some a:=h2;cases h2;exact h1
 | x::y::l,a,h,r,hr=>by obtain⟨b,h1,h2⟩:=u6 h;have h2:(ob (Jh lo (y::l)) λc=>bi (aB 100 b.v c.v) (bi (kZ b.bs c.bs) (some b) none) none)=some a:=h2;obtain⟨c,h3,h2⟩:=u6 h2;obtain⟨h4,h2⟩:=C8 h2;obtain⟨h5,h2⟩:=C8 h2;have h2:some b=some a:=h2;cases h2;rcases Z4.1 hr with rfl | hr;exact h1;have:=uU (y::l) c h3 r hr;rw [this];have e1:=jw 100 _ _ h4;have e2:=ql _ _ h5;obtain⟨av,ab⟩:=a;obtain⟨cv,cb⟩:=c;have e1:av=cv:=e1;have e2:ab=cb:=e2;rw [e1,e2]
theorem PV {cf:D7}(i:nD P G cf){g:jV}(o:Zq P G g)(j:P.follows .mixedOrders=true)(b:Nat){f:FuncId}{sf:T9}(z:qx P f sf){args:List d9}{k:List NB}{a:Br}
  (h:(ob (lY cf g b sf args (U4 G k)) λl=>Jh (layAll k G).nx l)=some a):kH P G f args k a:=by
 intro ι w A c;obtain⟨l,t,p⟩:=u6 h;refine (Mv i o b (λd B r=>oN j i d B r) z t A c).mono ?_;rintro e w' (⟨v,rfl,r,hr,ι',g1,g2,rfl⟩ | ⟨r,hr,x,ι',hx,_⟩);exact⟨ι',r,g1,g2,rfl,uU l a p r hr⟩;exfalso;have u:=uU l a p r hr;obtain⟨C,n,_⟩:=u6 u;obtain⟨s,_,_,m,_⟩:=sF n;rw [hx] at m;simp only [kP] at m;obtain⟨y,q,_⟩:=u6 m;simp only [fA] at q;cases q
theorem JL {α:Type}(l:List α):(T.ofList l).slice l.length 0=some l:=by
 have a:∀(k i:Nat),i+k=l.length->(T.ofList l).slice k i=some (l.drop i):=by
  intro k;induction k with
  | zero=>intro i h;rw [T.DK,aeb (by omega)]
  | succ k ih=>
   intro i h;have b:i<l.length:=by omega
   rw [T.xI,T.aC,q9 b,K4,ih (i+1) (by omega),K4,List.getElem_cons_drop]
 exact a l.length 0 (by omega)
theorem PW (nb:NB):xE (iU nb)=some nb:=by
 cases nb with
 | cells rs rows=>show (ob ((T.ofList rows).slice (len' rows) 0) λl=>some (NB.cells rs l))=_;rw [I5,JL];rfl
 | map es=>rfl
 | tail p=>rfl
 | dead=>rfl
def fF (g:Nat)(ι:J5)(ids:List Nat):J5:=λi=>if i<g then ι i else ι (ids.getD (i-g) 0)
theorem ZE (J:∃Df,EG G Df)(u:RM P G ι m w.heap){Q:List d9}{c:CO}(hc:ji G.nx Q m=some c)(V:aM (m.nm ι) Q):
  RM P G (fF G.nx ι c.ids) (U4 G c.bs) w.heap∧aM ((U4 G c.bs).nm (fF G.nx ι c.ids)) c.vs∧o9 (fF G.nx ι c.ids) c.vs=o9 ι Q∧c.bs.length=c.ids.length∧
   (∀(k i:Nat),c.ids[k]?=some i->G.nx<=i∧m.has i)∧(∀i,G.nx<=i->i<(U4 G c.bs).nx->∃j,c.ids[i-G.nx]?=some j):=by
 obtain⟨Df,J⟩:=J;obtain⟨N,⟨S,a0⟩,r,O,h4⟩:=sF hc;obtain⟨Z,l2,l3,l4⟩:=qj c.bs G J.ok;obtain⟨b1,b2⟩:=vR _ _ h4;have B:c.bs.length=c.ids.length:=by rw [b1,r];simp
 have h:∀(k i:Nat),c.ids[k]?=some i->G.nx<=i∧∃b z nb',m.get i=some b∧xE b=some z∧c.bs[k]?=some nb'∧pI (wD G.nx c.ids) z=some nb':=by
  intro k i n;rw [r,aaj] at n;cases hp:N[k]? with
  | none=>rw [hp] at n;cases n
  | some p=>
   rw [hp] at n;have n:p.1=i:=Y4 n;obtain⟨C,b,D,A⟩:=S p (Xl hp);rw [n] at C D;have L:k<c.bs.length:=by rw [B,r,acp];exact (Hl.1 hp).1
   obtain⟨y,E,q5⟩:=b2 k _ (q9 L);rw [aaj,hp] at E;have E:p.2=y:=Y4 E;rw [← E] at q5;exact⟨C,b,p.2,_,D,A,q9 L,q5⟩
 have f:∀i,(U4 G c.bs).get i=if i<G.nx then G.get i else (c.bs[i-G.nx]?).map iU:=l4
 have v:(U4 G c.bs).nx=G.nx+c.bs.length:=l2;have d:∀i,i<G.nx->m.get i=G.get i:=u.base;have F:∀k i,c.ids[k]?=some i->fF G.nx ι c.ids (G.nx+k)=ι i:=by intro k i n;unfold fF;rw [if_neg (by omega),show G.nx+k-G.nx=k from by omega,Y7,n];rfl
 have o:∀i,i<G.nx->fF G.nx ι c.ids i=ι i:=λi g=>if_pos g;have Y:BP ι (m.nm ι) (fF G.nx ι c.ids) ((U4 G c.bs).nm (fF G.nx ι c.ids)) (wD G.nx c.ids):=by intro i j s ⟨y,hy,hyv⟩;rcases HY s with⟨l,rfl⟩ | ⟨l,I,O⟩;refine⟨⟨y,?_,hyv⟩,o _ l,congrArg Loc.cap (o _ l)⟩;rw [f,if_pos l,← d _ l];exact hy;have e:=F (j-G.nx) i O;rw [show G.nx+(j-G.nx)=j from by omega] at e;obtain⟨_,_,_,nb',_,_,q,_⟩:=h (j-G.nx) i O;refine⟨⟨iU nb',?_,Ez nb'⟩,e,congrArg Loc.cap e⟩;rw [f,if_neg (by omega),q];rfl
 have U:BP ι (m.nm ι) (fF G.nx ι c.ids) ((U4 G c.bs).nm (fF G.nx ι c.ids)) (λi=>bi (Nat.blt i G.nx) (some i) none):=by intro i j s ⟨y,hy,hyv⟩;have s:bi (Nat.blt i G.nx) (some i) none=some j:=s;obtain⟨l,I⟩:=C8 s;cases I;have l:i<G.nx:=Eq.mp X8 l;refine⟨⟨y,?_,hyv⟩,o _ l,congrArg Loc.cap (o _ l)⟩;rw [f,if_pos l,← d _ l];exact hy
 obtain⟨v1,v2⟩:=jA Y Q c.vs O V;have H:∀i x,(U4 G c.bs).get i=some x->R8 x=true->(fF G.nx ι c.ids i).spot=none:=by
  intro i b a M;rw [f] at a;split at a;rename_i g;rw [o i g];exact u.spot i b (by rw [d i g];exact a) M;rename_i g;cases hnb:c.bs[i-G.nx]? with
  | none=>rw [hnb] at a;cases a
  | some z=>
   rw [hnb] at a;have a:iU z=b:=Y4 a;subst a;have n:i-G.nx<c.ids.length:=by have:=(Hl.1 hnb).1;omega
   have t:=q9 n;obtain⟨_,bb,X,nb',C,D,A,E⟩:=h _ _ t;rw [hnb] at A;cases A;have e:=F (i-G.nx) _ t;rw [show G.nx+(i-G.nx)=i from by omega] at e;rw [e];exact u.spot _ _ C (by rw [← EB D E];exact M)
 refine⟨⟨Z,?_,λi x g W=>?_,?_,J2 _,u.gle,λi g=>by rw [f,if_pos g],λi g=>?_,λi g=>?_,λi x W hl=>?_,u.gsz⟩,v2,v1,B,λk i n=>?_,λi l I=>?_⟩;intro i b a;rw [f] at a;split at a;rename_i g;rw [o i g];have T:m.get i=some b:=by rw [d i g];exact a
 have R:=u.blk i b T;rw [J.get i g] at a;cases hnb:Df[i]? with
 | none=>rw [hnb] at a;cases a
 | some z=>rw [hnb] at a;have a:iU z=b:=Y4 a;subst a;exact JK U R (PW z) (J.shut z (Xl hnb))
 rename_i g;cases hnb:c.bs[i-G.nx]? with
 | none=>rw [hnb] at a;cases a
 | some z=>
  rw [hnb] at a;have a:iU z=b:=Y4 a;subst a;have n:i-G.nx<c.ids.length:=by have:=(Hl.1 hnb).1;omega
  have t:=q9 n;obtain⟨_,bb,X,nb',C,D,A,E⟩:=h _ _ t;rw [hnb] at A;cases A;have e:=F (i-G.nx) _ t;rw [show G.nx+(i-G.nx)=i from by omega] at e;rw [e];exact JK Y (u.blk _ _ C) D E
 have:=Mem.H9 (m:=U4 G c.bs) Z W;have g:(U4 G c.bs).nx<=i:=g;omega;show G.nx<=(U4 G c.bs).nx;rw [v];omega;obtain⟨y,l,I⟩:=u.ghas i g;have K:i<G.nx:=gq g u.gle;exact⟨y,by rw [f,if_pos K,← d i K];exact l,I⟩;rw [o i (gq g u.gle)];exact u.glob i g;exact H i x W hl;obtain⟨C,b,z,_,D,A,_⟩:=h k i n;exact⟨C,b,D,Tx A⟩;rw [v] at I;exact⟨_,q9 (by omega)⟩
def eG (next:Nat)(ι ι2:J5)(ids:List Nat):J5:=λi=>if i<next then ι i else ι2 (ids.getD (i-next) 0)
theorem BS {g b i j:Nat}{a:List Nat}(h:mU g a b i=some j):
  (i<g∧j=i)∨(g<=i∧i-g<a.length∧a[i-g]?=some j)∨(g+a.length<=i∧j=b+(i-g-a.length)):=by
 unfold mU at h;rw [I5] at h;cases c:Nat.blt i g with
 | true=>rw [c] at h;have h:some i=some j:=h;cases h;exact .inl ⟨Eq.mp X8 c,rfl⟩
 | false=>
  rw [c] at h;have c:=jJ c;cases d:Nat.blt (Nat.sub i g) a.length with
  | true=>rw [d] at h;have h:pE (i-g) a=some j:=h;rw [jk] at h;exact .inr (.inl ⟨c,Eq.mp X8 d,h⟩)
  | false=>rw [d] at h;have d:a.length<=i-g:=jJ d;have h:some (b+(i-g-a.length))=some j:=h;cases h;exact .inr (.inr ⟨by omega,rfl⟩)
theorem MS (hB:∃Df,EG G Df){f:FuncId}{args:List d9}{c:CO}{a:Br}{v:d9}{F:List NB}(E:RM P G ι m w.heap)(a2:aM (m.nm ι) args)(hc:ji G.nx args m=some c)(ha:kH P G f c.vs c.bs a)
  (hv:fA (mU G.nx c.ids m.nx) a.v=some v) (ag:wM (mU G.nx c.ids m.nx) a.bs=some F):
  CallsIn Fence.wide 0 P f (o9 ι args).toArray w (P5 P G ι m w [⟨v,layAll F m⟩]):=by
 have a5:T.Ok G.t G.nx:=by obtain⟨Df,hB⟩:=hB;exact hB.ok
 obtain⟨ab,X,a3,a9,a6,ao⟩:=ZE hB E hc a2;have N:=ha (fF G.nx ι c.ids) w ab X;rw [a3] at N;refine N.mono ?_;rintro e w' ⟨ι2,r,hst,hrv,rfl,C⟩;obtain⟨g,ah,C⟩:=u6 C;obtain⟨ad,⟨ai,aj⟩,R,J,Y⟩:=sF ah;have an:∃u,g.vs=[u]∧fA (wD (layAll c.bs G).nx g.ids) r.v=some u:=by simp only [kP] at J;obtain⟨x,W,J⟩:=u6 J;obtain⟨y,h6,J⟩:=u6 J;cases h6;have J:some [x]=some g.vs:=J;exact⟨x,(Y4 J).symm,W⟩
 obtain⟨u,hu,am⟩:=an;rw [hu] at C;have C:some (⟨u,g.bs⟩:Br)=some a:=C;cases C;obtain⟨b1,b2⟩:=vR _ _ Y;obtain⟨b3,b4⟩:=vR _ _ ag;obtain⟨l1,l2,l3,l4⟩:=qj c.bs G a5;obtain⟨k1,k2,k3,k4⟩:=qj F m E.ok;have au:(U4 G c.bs).lim=(layAll c.bs G).nx:=rfl;have ae:(layAll c.bs G).nx=G.nx+c.ids.length:=by rw [l2,a9]
 have ac:∀b,¬ Lv (fF G.nx ι c.ids) (U4 G c.bs) b:=by rintro b ⟨i,x,B,A,_,_⟩;have:=Mem.H9 (m:=U4 G c.bs) ab.ok A;have B:(U4 G c.bs).nx<=i:=B;omega
 have K:∀b,b<w.heap.size->w'.heap[b]?=w.heap[b]?:=λb hb=>hst.frame b hb (ac b);have s:∀i x,(layAll c.bs G).nx<=i->r.m.get i=some x->R8 x=true->w.heap.size<=(ι2 i).b:=by intro i x B A L;rcases hst.own _ ⟨i,x,by rw [hst.lim];exact B,A,L,rfl⟩ with h | h;exact absurd h (ac _);exact h
 have V:∀(k i:Nat),g.ids[k]?=some i->(layAll c.bs G).nx<=i∧∃b nb nb',r.m.get i=some b∧xE b=some nb∧F[k]?=some nb'∧
   pI (λi=>ob (wD (layAll c.bs G).nx g.ids i) (mU G.nx c.ids m.nx)) nb=some nb':=by
  intro k i M;have ar:=M;rw [R,aaj] at M;cases hp:ad[k]? with
  | none=>rw [hp] at M;cases M
  | some p=>
   rw [hp] at M;have M:p.1=i:=Y4 M;obtain⟨q1,b,q2,q3⟩:=ai p (Xl hp);rw [M] at q1 q2;have a4:k<g.bs.length:=by rw [b1,acp];exact (Hl.1 hp).1
   have Z:k<F.length:=by rw [b3];exact a4
   obtain⟨y,q4,q5⟩:=b2 k _ (q9 a4);obtain⟨z,q6,q7⟩:=b4 k _ (q9 Z);have q6:g.bs[k]?=some z:=q6;rw [q9 a4] at q6;cases q6;rw [aaj,hp] at q4;have q4:p.2=y:=Y4 q4;rw [← q4] at q5;exact⟨q1,b,p.2,_,q2,q3,q9 Z,Tz q5 q7⟩
 have aq:F.length=g.ids.length:=by rw [b3];show g.bs.length=_;rw [b1,R];simp
 have H:∀i,(layAll F m).get i=if i<m.nx then m.get i else (F[i-m.nx]?).map iU:=k4
 have d:∀i,i<m.nx->eG m.nx ι ι2 g.ids i=ι i:=λi B=>if_pos B;have o:∀k i,g.ids[k]?=some i->eG m.nx ι ι2 g.ids (m.nx+k)=ι2 i:=by intro k i M;unfold eG;rw [if_neg (by omega),show m.nx+k-m.nx=k from by omega,Y7,M];rfl
 have aa:∀i x,m.get i=some x->i<m.nx:=λi x A=>Mem.H9 E.ok A;have I:∀i,m.has i->(layAll F m).has i:=λi ⟨x,h1,h2⟩=>⟨x,by rw [H,if_pos (aa i x h1)];exact h1,h2⟩;have D:∀i,m.has i->eG m.nx ι ι2 g.ids i=ι i:=λi ⟨x,h1,_⟩=>d i (aa i x h1);have ap:G.nx<=m.nx:=aP E.glim E.limn;have hr:BP ι2 (r.m.nm ι2) (eG m.nx ι ι2 g.ids) ((layAll F m).nm (eG m.nx ι ι2 g.ids)) (λi=>ob (wD (layAll c.bs G).nx g.ids i) (mU G.nx c.ids m.nx)):=by
  intro i j ak ⟨y,hy,hyv⟩;obtain⟨t,W,h6⟩:=u6 ak;have a1:(layAll F m).has j∧eG m.nx ι ι2 g.ids j=ι2 i->((layAll F m).nm (eG m.nx ι ι2 g.ids)) j∧eG m.nx ι ι2 g.ids j=ι2 i∧((layAll F m).nm (eG m.nx ι ι2 g.ids)).cap j=(r.m.nm ι2).cap i:=
   λ⟨p,q⟩=>⟨p,q,congrArg Loc.cap q⟩
  rcases HY W with⟨h7,rfl⟩ | ⟨h7,h8,h9⟩
  ·
   have O:(U4 G c.bs).get t=some y:=by rw [← hst.old t h7];exact hy
   have a0:ι2 t=fF G.nx ι c.ids t:=hst.ext t ⟨y,O,hyv⟩;rcases BS h6 with⟨h10,rfl⟩ | ⟨h10,h11,h12⟩ | ⟨h10,_⟩;have U:m.has j:=by
    refine⟨y,?_,hyv⟩;have af:(U4 G c.bs).get j=if j<G.nx then G.get j else (c.bs[j-G.nx]?).map iU:=l4 j
    rw [af,if_pos h10] at O;rw [E.base j h10];exact O
   exact a1 ⟨I j U,by rw [D j U,a0];exact (if_pos h10).symm⟩;obtain⟨_,U⟩:=a6 _ _ h12;refine a1 ⟨I j U,?_⟩;rw [D j U,a0];unfold fF;rw [if_neg (by omega),Y7,h12];rfl;omega
  ·
   rcases BS h6 with⟨h10,_⟩ | ⟨h10,h11,_⟩ | ⟨h10,rfl⟩;omega;omega;have e:t-G.nx-c.ids.length=t-(layAll c.bs G).nx:=by omega
   obtain⟨_,_,_,nb',_,_,q,_⟩:=V _ _ h9;refine a1 ⟨⟨iU nb',?_,Ez nb'⟩,by rw [e];exact o _ _ h9⟩;rw [e,H,if_neg (by omega),show m.nx+(t-(layAll c.bs G).nx)-m.nx=t-(layAll c.bs G).nx from by omega,q];rfl
 obtain⟨v1,v2⟩:=oO hr r.v v (qQ _ _ _ am hv) hrv;have l:∀i x,(layAll F m).get i=some x->(i<m.nx∧m.get i=some x)∨∃k id b,i=m.nx+k∧g.ids[k]?=some id∧r.m.get id=some b∧(layAll c.bs G).nx<=id∧R8 x=R8 b∧
   dF P (eG m.nx ι ι2 g.ids) ((layAll F m).nm (eG m.nx ι ι2 g.ids)) w'.heap (ι2 id) x:=by
  intro i x A;rw [H] at A;split at A;exact .inl ⟨by assumption,A⟩;rename_i B;cases hnb:F[i-m.nx]? with
  | none=>rw [hnb] at A;cases A
  | some nb=>
   rw [hnb] at A;have A:iU nb=x:=Y4 A;subst A;have M:i-m.nx<g.ids.length:=by have:=(Hl.1 hnb).1;omega
   have a7:=q9 M;obtain⟨q0,b,av,nb',q1,q2,q3,q4⟩:=V _ _ a7;rw [hnb] at q3;cases q3;exact .inr ⟨i-m.nx,_,b,by omega,a7,q1,q0,EB q2 q4,JK hr (hst.rm.blk _ _ q1) q2 q4⟩
 refine .inl ⟨l9 ι2 r.v,rfl,⟨v,layAll F m⟩,aA.2 rfl,eG m.nx ι ι2 g.ids,?_,v2,v1.symm⟩;refine⟨⟨k1,?_,?_,by rw [k3];exact E.glim,by rw [k3,k2];exact aP E.limn (by omega),E.gle,λi B=>by rw [H,if_pos (by omega)];exact E.base i B,λi B=>I i (E.ghas i B),
  λi B=>by rw [D i (E.ghas i B)];exact E.glob i B,λi x A L=>by
   rcases l i x A with⟨h1,h2⟩ | ⟨k,id,b,rfl,h2,J,_,W,_⟩;rw [d i h1];exact E.spot i x h2 L;rw [o k id h2];exact hst.rm.spot id b J (by rw [← W];exact L),hst.rm.gsz⟩,D,I,by rw [k2];omega,k3,λi B=>by rw [H,if_pos (by have:=E.limn;omega)],hst.size,λb hb _=>K b hb,?_,hst.os,hst.out,hst.tape⟩
 intro i x A;rcases l i x A with⟨h1,h2⟩ | ⟨k,id,b,rfl,h2,J,_,_,Y⟩;rw [d i h1];exact (E.blk i x h2).mono (n:=m.nm ι) D (Mem.V7 I D) λL=>K _ (eD (E.blk i x h2) L);rw [o k id h2];exact Y;intro i x B A L;rw [k3] at B;rcases l i x A with⟨h1,h2⟩ | ⟨k,id,b,rfl,h2,J,Y,W,h6⟩;have ho:=E.own i x B h2 L;have hb:=eD (E.blk i x h2) L;refine⟨λj y hj hy S=>?_,λc e fz Q=>?_⟩;rcases l j y hy with⟨g1,g2⟩ | ⟨k',id',b',rfl,g2,g3,g4,g5,g6⟩;rw [d j g1,d i h1];exact ho.alone j y hj g2 S;rw [o k' id' g2,d i h1];have:=s id' b' g4 g3 (by rw [← g5];exact S);omega;rw [d i h1,K _ hb] at Q;exact ho.free c e fz Q;have a8:R8 b=true:=by rw [← W];exact L
 have ho:=hst.rm.own id b (by rw [hst.lim];exact Y) J a8;have hn:=s id b Y J a8;refine⟨λj y hj hy S=>?_,λc e fz Q=>?_⟩;rw [o k id h2];rcases l j y hy with⟨g1,g2⟩ | ⟨k',id',b',rfl,g2,g3,g4,g5,g6⟩;rw [d j g1];have:=eD (E.blk j y g2) S;omega;rw [o k' id' g2];refine ho.alone id' b' (λe=>hj ?_) g3 (by rw [← g5];exact S);subst e;have al:g.ids.Nodup:=by rw [R];exact aj
 have:k'=k:=(acK (Hl.1 g2).1 al).1 (g2.trans h2.symm);rw [this];rw [o k id h2] at Q;exact ho.free c e fz Q;rintro b ⟨i,x,B,A,L,rfl⟩;rw [k3] at B;rcases l i x A with⟨h1,h2⟩ | ⟨k,id,bb,rfl,h2,J,Y,W,h6⟩;rw [d i h1];exact .inl ⟨i,x,B,h2,L,rfl⟩;rw [o k id h2];exact .inr (s id bb Y J (by rw [← W];exact L))
end
section
variable {P:Program}
structure Sum where
 f:FuncId
 args:List d9
 bs:List NB
 a:Br
noncomputable def sumOf (l:List Sum)(f:FuncId)(args:List d9)(bs:List NB):Option Br:=
 List.rec none (λs _ ih=>bi (Nat.beq s.f f) (bi (tC (aB 100) s.args args) (bi (kZ s.bs bs) (some s.a) ih) ih) ih) l
theorem yc {G:Mem}:∀(l:List Sum),(∀s∈l,kH P G s.f s.args s.bs s.a)->∀f args bs a,sumOf l f args bs=some a->kH P G f args bs a
 | [],_,f,args,bs,a,h=>by cases h
 | s::l,hl,f,args,bs,a,h=>by
  have ih:=yc l (λs hs=>hl s (by simp [hs])) f args bs a;have h:bi (Nat.beq s.f f) (bi (tC (aB 100) s.args args) (bi (kZ s.bs bs) (some s.a) (sumOf l f args bs)) (sumOf l f args bs)) (sumOf l f args bs)=some a:=h;cases h1:Nat.beq s.f f with
  | false=>rw [h1] at h;exact ih h
  | true=>
   rw [h1] at h;cases h2:tC (aB 100) s.args args with
   | false=>rw [h2] at h;exact ih h
   | true=>
    rw [h2] at h;cases h3:kZ s.bs bs with
    | false=>rw [h3] at h;exact ih h
    | true=>rw [h3] at h;have h:some s.a=some a:=h;cases h;rw [← gI h1,← lM (jw 100) _ _ h2,← ql _ _ h3];exact hl s (by simp)
structure Wq (P:Program)(K:Known):Prop where
 mix:P.follows .mixedOrders=true
 fns:∀f sf,K.fns f=some sf->qx P f sf
 base:∃Df,EG K.base Df
 sum:∀f args bs a,K.sum f args bs=some a->kH P K.base f args bs a
 eff:∀{f:FuncId} {args:List d9} {m:Mem} {outs:List VM},K.eff f args m=some outs->Ay P f∧∀{ι:J5} {w:World},RM P K.base ι m w.heap->aM (m.nm ι) args->
  CallsIn Fence.wide 0 P f (o9 ι args).toArray w (P5 P K.base ι m w outs)
theorem uV (K:Known)(a:Nat)(b:Fn)(args:List d9)(m:Mem):j6 K a 0 b args m=none:=rfl
theorem dJ (K:Known)(fuel n:Nat)(fn:Fn)(args:List d9)(m:Mem):j6 K fuel (n+1) fn args m=match fn with
  | .func f=>Option.rec (ob (K.fns f) λsf=>bi sf.pure (iW K (j6 K fuel n) fuel f sf args m) (lY (j6 K fuel n) (sP K (j6 K fuel n) fuel) fuel sf args m)) (λl=>some l) (K.eff f args m)
  | .yield l=>Ji (j6 K fuel n) fuel l args m
  | _=>none:=rfl
theorem MU {K:Known}(i:Wq P K){cf:D7}(d:nD P K.base cf){c:Nat}{f:FuncId}{sf:T9}(j:qx P f sf){args:List d9}{g:List NB}{a:Br}(h:Bv K cf c f sf args g=some a):kH P K.base f args g a:=by
 unfold Bv at h;cases hs:K.sum f args g with
 | some b=>rw [hs] at h;have h:some b=some a:=h;cases h;exact i.sum f args g _ hs
 | none=>rw [hs] at h;exact PV d (Hz i.fns d c λe k r=>oN i.mix d e k r) i.mix c j h
theorem AR {K:Known}(g:Wq P K)(b:Nat):∀n,nD P K.base (j6 K b n):=by
 intro n;induction n with
 | zero=>exact⟨(λh=>by rw [uV] at h;cases h),(λh=>by rw [uV] at h;cases h),(λh=>by rw [uV] at h;cases h)⟩
 | succ n ih=>
  refine⟨λ{f args m outs} h=>?_,λ{l args m outs} h {ι w} hm hargs=>?_,λ{fn args m outs} h=>?_⟩
  ·rw [dJ] at h;have h:(Option.rec (ob (K.fns f) λe=>bi e.pure (iW K (j6 K b n) b f e args m) (lY (j6 K b n) (sP K (j6 K b n) b) b e args m)) (λl=>some l) (K.eff f args m):eu)=some outs:=h;cases he:K.eff f args m with
   | some l=>rw [he] at h;have h:some l=some outs:=h;cases h;exact g.eff he
   | none=>
   rw [he] at h;have h:(ob (K.fns f) λe=>bi e.pure (iW K (j6 K b n) b f e args m) (lY (j6 K b n) (sP K (j6 K b n) b) b e args m))=some outs:=h;obtain⟨e,k,h⟩:=u6 h;have j:=g.fns f e k;refine⟨j.ok,λ{ι w} hm hargs=>?_⟩;cases hp:e.pure with
   | false=>rw [hp] at h;exact Mv ih (Hz g.fns ih b λd i r=>oN g.mix ih d i r) b (λd i r=>oN g.mix ih d i r) j h hm hargs
   | true=>rw [hp] at h;have h:iW K (j6 K b n) b f e args m=some outs:=h;obtain⟨c,o,h⟩:=u6 h;obtain⟨a,p,h⟩:=u6 h;obtain⟨v,q,h⟩:=u6 h;obtain⟨t,s,h⟩:=u6 h;cases h;exact MS g.base hm hargs o (MU g ih j p) q s
  rw [dJ] at h;exact Mt ih b (λd i r=>oN g.mix ih d i r) h hm hargs;rw [dJ] at h;cases fn with
  | func f=>exact .inl ⟨f,rfl⟩
  | yield l=>exact .inr ⟨l,rfl⟩
  | _=>cases h
theorem PX {K:Known}(d:Wq P K){b n:Nat}{f:FuncId}{sf:T9}(e:qx P f sf){args:List d9}{c:List NB}{a:Br}(h:Bv K (j6 K b n) b f sf args c=some a):kH P K.base f args c a:=
 MU d (AR d b n) e h
end
noncomputable def TA (pure rc:Bool)(a:AFn):T9:=⟨pure,a.args,a.nslots,a.results,Cm a.body,bif rc then some a.body else none⟩
theorem Ri {P:Program}{d:List Nat}{f:FuncId}{a:AFn}(h:OW P d f=some a)(j m:Bool):qx P f (TA j m a):=by
 unfold OW at h;split at h;cases h;rename_i k g;split at h;cases h;rename_i c l;split at h;rename_i b r s u;split at h;rename_i i;cases h;simp only [q8,bne_iff_ne,ne_eq] at i;obtain⟨⟨⟨n,o⟩,p⟩,q⟩:=i;refine⟨⟨k,g,by rw [l];rfl,q⟩,d,k,c,b,r,g,l,s,u,n,λt v=>?_,?_,rfl,rfl,rfl,rfl,λw e=>?_⟩;exact Eq.mp X8 (aa4.1 o t v);have:d.length<1152921504606846976:=Eq.mp X8 p;exact this;cases m with
 | true=>exact (Y4 e).symm
 | false=>cases e
 cases h;cases h
theorem Rj {P:Program}{b:List Nat}{f:FuncId}{c d:Bool}{sf:T9}(h:(OW P b f).map (TA c d)=some sf):qx P f sf:=by
 cases hc:OW P b f with
 | none=>rw [hc] at h;cases h
 | some a=>rw [hc] at h;cases h;exact Ri hc c d
end Go.AM
namespace Go.AM
open Go
noncomputable section
def TOk (P:Program)(r:Nat->Nat)(t:T (Option T9)):Prop:=∀i sf,t.get i=some (some sf)->qx P (r i) sf
theorem alZ {P:Program}{r:Nat->Nat}:TOk P r .e:=λi a h=>by cases h
def OOk (P:Program)(i:Nat)(o:Option T9):Prop:=∀sf,o=some sf->qx P i sf
theorem am1 {P:Program}{i:Nat}:OOk P i none:=λ_ h=>by cases h
theorem am2 {P:Program}{i:Nat}{sf:T9}(h:qx P i sf):OOk P i (some sf):=λ_ e=>by cases e;exact h
theorem ah0 {P:Program}{r:Nat->Nat}{a b:T (Option T9)}{x:Option T9}(d:TOk P (λi=>r (2*i+1)) a)(f:OOk P (r 0) x)(hb:TOk P (λi=>r (2*i+2)) b):TOk P r (.nd a x b):=by
 intro i sf h;cases i with
 | zero=>exact f sf (Y4 h)
 | succ j=>
  have h:(Nat.rec (a.get (Nat.div j 2)) (λ_ _=>b.get (Nat.div j 2)) (Nat.mod j 2):Option (Option T9))=some (some sf):=h;rcases aaY j with h2 | h2;have c:Nat.mod j 2=0:=h2;rw [c] at h;have:=d _ sf h;have e:2*Nat.div j 2+1=j+1:=by have:Nat.div j 2=j / 2:=rfl;omega
  have this:qx P (r (2*Nat.div j 2+1)) sf:=this;rw [e] at this;exact this;have c:Nat.mod j 2=1:=h2;rw [c] at h;have:=hb _ sf h;have e:2*Nat.div j 2+2=j+1:=by have:Nat.div j 2=j / 2:=rfl;omega
  have this:qx P (r (2*Nat.div j 2+2)) sf:=this;rw [e] at this;exact this
section
variable {α β γ:Type}
@[simp] theorem akk (a:α)(f:α->Option (List β)):bnd (some [a]) f=f a:=_root_.id rfl
@[simp] theorem am3 (f:α->Option (List β)):bnd (none:Option (List α)) f=none:=_root_.id rfl
@[simp] theorem ah1 (a:α)(f:α->Option β):OP (some [a]) f=f a:=_root_.id rfl
@[simp] theorem abS (a:α)(z:β)(f:α->β):(Option.rec z (λv=>f v) (some a):β)=f a:=_root_.id rfl
@[simp] theorem abT (z:β)(f:α->β):(Option.rec z (λv=>f v) none:β)=z:=_root_.id rfl
end
section
variable (k:IntKind)(b:Bool)(n:Int)(s:List UInt8)(i o l c:Nat)(v:d9)(as bs:List d9)(fn:Fn){β:Type}
@[simp] theorem afA (p:d9->β)(q:β):bg (.bool b) p q=q:=_root_.id rfl
@[simp] theorem ah2 (p:d9->β)(q:β):bg (.int k n) p q=q:=_root_.id rfl
@[simp] theorem ah3 (p:d9->β)(q:β):bg (.str s) p q=q:=_root_.id rfl
@[simp] theorem abU (p:d9->β)(q:β):bg .nilPtr p q=q:=_root_.id rfl
@[simp] theorem ah4 (p:d9->β)(q:β):bg (.ptr i o) p q=q:=_root_.id rfl
@[simp] theorem YE (p:d9->β)(q:β):bg .nilSlice p q=q:=_root_.id rfl
@[simp] theorem adi (p:d9->β)(q:β):bg (.slice i o l c) p q=q:=_root_.id rfl
@[simp] theorem abV (p:d9->β)(q:β):bg (.sliceU i o l c) p q=q:=_root_.id rfl
@[simp] theorem abW (p:d9->β)(q:β):bg .nilMap p q=q:=_root_.id rfl
@[simp] theorem ah5 (p:d9->β)(q:β):bg (.map i) p q=q:=_root_.id rfl
@[simp] theorem ZF (p:d9->β)(q:β):bg .nilFunc p q=q:=_root_.id rfl
@[simp] theorem afB (p:d9->β)(q:β):bg (.func fn as bs) p q=q:=_root_.id rfl
@[simp] theorem YF (p:d9->β)(q:β):bg .nilIface p q=q:=_root_.id rfl
@[simp] theorem adj (p:d9->β)(q:β):bg (.iface i v) p q=q:=_root_.id rfl
@[simp] theorem ah6 (p:d9->β)(q:β):bg (.agg as) p q=q:=_root_.id rfl
@[simp] theorem adk (p:d9->β)(q:β):bg (.tuple as) p q=q:=_root_.id rfl
@[simp] theorem adl (p:d9->β)(q:β):bg .undef p q=q:=_root_.id rfl
@[simp] theorem ah7 (p:d9->β)(q:β):bg (.mq v) p q=p v:=_root_.id rfl
end
@[simp] theorem am4 (x:d9)(ls:List d9)(env:T d9):E9 (x::ls) env=x:=_root_.id rfl
@[simp] theorem am5 (a x:d9)(ls:List d9)(env:T d9):dV (a::x::ls) env=x:=_root_.id rfl
@[simp] theorem am6 (a b x:d9)(ls:List d9)(env:T d9):iy (a::b::x::ls) env=x:=_root_.id rfl
@[simp] theorem am7 (a b c x:d9)(ls:List d9)(env:T d9):tV (a::b::c::x::ls) env=x:=_root_.id rfl
@[simp] theorem akl (k:Nat)(ls:List d9)(env:T d9):aZ k ls env=ls[k]?.getD .undef:=Vu k ls
@[simp] theorem akm (v:d9)(ls:List d9)(env:T d9):C9 v ls env=v:=_root_.id rfl
@[simp] theorem ah8 (g:T d9->d9)(ls:List d9)(env:T d9):I9 g ls env=g env:=_root_.id rfl
@[simp] theorem apR (l r:T d9)(x:d9):gH (.nd l x r)=x:=_root_.id rfl
@[simp] theorem apS (g:T d9->d9)(l r:T d9)(x:d9):gL g (.nd l x r)=g l:=_root_.id rfl
@[simp] theorem apT (g:T d9->d9)(l r:T d9)(x:d9):gR g (.nd l x r)=g r:=_root_.id rfl
@[simp] theorem apU (v:d9)(l r:T d9)(x:d9):sH v (.nd l x r)=.nd l v r:=_root_.id rfl
@[simp] theorem apV (s:d9->T d9->T d9)(v:d9)(l r:T d9)(x:d9):sL s v (.nd l x r)=.nd (s v l) x r:=_root_.id rfl
@[simp] theorem apW (s:d9->T d9->T d9)(v:d9)(l r:T d9)(x:d9):sR s v (.nd l x r)=.nd l x (s v r):=_root_.id rfl
@[simp] theorem am8 (v:d9)(t:T d9):D8 v t=t:=_root_.id rfl
@[simp] theorem akn (ls:List d9)(env:T d9):evs [] ls env=[]:=_root_.id rfl
@[simp] theorem ah9 (x:OF)(l:List OF)(ls:List d9)(env:T d9):evs (x::l) ls env=x ls env::evs l ls env:=_root_.id rfl
section
variable {β:Type}(ls:List d9)(env:T d9)(m:Mem)
@[simp] theorem ako (x:OF):L9 x ls env=some (x ls env):=_root_.id rfl
@[simp] theorem aha (c a b:OF):iM c a b ls env=pK (c ls env) λt=>some (bi t (a ls env) (b ls env)):=_root_.id rfl
@[simp] theorem ahb (b:Bool)(k:Bool->Option β):pK (.bool b) k=k b:=_root_.id rfl
@[simp] theorem akp (k:IntKind)(n:Int)(f:IntKind->Int->Option β):rA (.int k n) f=f k n:=_root_.id rfl
@[simp] theorem ZG (s:List UInt8)(f:List UInt8->Option β):pF (.str s) f=f s:=_root_.id rfl
@[simp] theorem Rk (i o:Nat)(f:Nat->Nat->Option β):gT (.ptr i o) f=f i o:=_root_.id rfl
@[simp] theorem akq (l:List d9)(f:List d9->Option β):tX (.agg l) f=f l:=_root_.id rfl
@[simp] theorem akr (l:List d9)(f:List d9->Option β):KZ (.tuple l) f=f l:=_root_.id rfl
@[simp] theorem aks (i:Nat)(z:Option β)(f:Nat->Option β):tY (.map i) z f=f i:=_root_.id rfl
@[simp] theorem ahc (z:Option β)(f:Nat->Option β):tY .nilMap z f=z:=_root_.id rfl
@[simp] theorem akt (z:Option β)(f g:Nat->Nat->Nat->Nat->Option β):qD .nilSlice z f g=z:=_root_.id rfl
@[simp] theorem qU (a b c d:Nat)(z:Option β)(f g:Nat->Nat->Nat->Nat->Option β):qD (.slice a b c d) z f g=f a b c d:=_root_.id rfl
@[simp] theorem oP (a b c d:Nat)(z:Option β)(f g:Nat->Nat->Nat->Nat->Option β):qD (.sliceU a b c d) z f g=g a b c d:=_root_.id rfl
@[simp] theorem aku (fn:Fn)(a b:List d9)(f:Fn->List d9->List d9->Option β):La (.func fn a b) f=f fn a b:=_root_.id rfl
@[simp] theorem Ws (n:Nat)(k:Nat->Option β):Lb (n:Int) k=k n:=_root_.id rfl
@[simp] theorem adn (n:Nat)(k:Nat->Option β):Lb (.ofNat n) k=k n:=_root_.id rfl
@[simp] theorem afC (k:Nat->Option β):Lb 0 k=k 0:=_root_.id rfl
@[simp] theorem ahd (k:Nat->Option β):Lb 1 k=k 1:=_root_.id rfl
@[simp] theorem ZH (k:IntKind)(n:Int)(f:Nat->Option β):jQ (.int k n) f=Lb n f:=_root_.id rfl
@[simp] theorem EI (k:IntKind):YU k k=true:=by cases k<;>rfl
@[simp] theorem am9 (f:IB)(g:SB)(x y:OF):N7 f g x y ls env=Cj f g (x ls env) (y ls env):=_root_.id rfl
@[simp] theorem ahe (f:IB)(g:SB)(k:IntKind)(a b:Int):Cj f g (.int k a) (.int k b)=f k a b:=by show bi (YU k k) (f k a b) none=_;rw [EI];rfl
@[simp] theorem ahf (f:IB)(g:SB)(a b:List UInt8):Cj f g (.str a) (.str b)=g a b:=_root_.id rfl
@[simp] theorem akv (x y:OF):acT x y ls env=YW (x ls env) (y ls env):=_root_.id rfl
@[simp] theorem akw (x y:OF):acU x y ls env=YX (x ls env) (y ls env):=_root_.id rfl
@[simp] theorem akx (a b:Int):bM .i64 a b=some (.int .i64 (mK (a+b))):=_root_.id rfl
@[simp] theorem aky (a b:Int):Dn .i64 a b=some (.int .i64 (mK (a-b))):=_root_.id rfl
@[simp] theorem akz (a b:Int):UR .i64 a b=some (.int .i64 (mK (a*b))):=_root_.id rfl
@[simp] theorem ama (k:IntKind)(a b:Int):gD k a b=some (.bool (decide (a=b))):=by show some (d9.bool (bL a b))=_;rw [fO,show (a==b)=decide (a=b) from rfl]
@[simp] theorem amb (k:IntKind)(a b:Int):Ot k a b=some (.bool (!decide (a=b))):=by show some (d9.bool (!bL a b))=_;rw [fO,show (a==b)=decide (a=b) from rfl]
@[simp] theorem amc (k:IntKind)(a b:Int):IX k a b=some (.bool (decide (a<b))):=by rw [← iX];rfl
@[simp] theorem amd (k:IntKind)(a b:Int):QF k a b=some (.bool (decide (a<=b))):=by show some (d9.bool (!pO b a))=_;rw [iX,show (!decide (b<a))=decide (a<=b) from by rw [adX];simp]
@[simp] theorem ame (k:IntKind)(a b:Int):Ou k a b=some (.bool (decide (b<a))):=by rw [← iX];rfl
@[simp] theorem amf (k:IntKind)(a b:Int):Sn k a b=some (.bool (decide (b<=a))):=by show some (d9.bool (!pO a b))=_;rw [iX,show (!decide (a<b))=decide (b<=a) from by rw [adX];simp]
theorem O0 {n:Int}(h:-9223372036854775808<=n)(h':n<9223372036854775808):mK n=n:=by
 cases n with
 | ofNat m=>show bi (Nat.blt m 9223372036854775808) _ _=_;rw [show Nat.blt m 9223372036854775808=true from X8.mpr (by simp at h';omega)];rfl
 | negSucc m=>show bi (Nat.blt m 9223372036854775808) _ _=_;rw [show Nat.blt m 9223372036854775808=true from X8.mpr (by omega)];rfl
@[simp] theorem amg (f:FJ)(x y:OF):pEq f x y ls env=ob (f (x ls env) (y ls env)) λb=>some (.bool b):=_root_.id rfl
@[simp] theorem amh (f:FJ)(x y:OF):pNe f x y ls env=ob (f (x ls env) (y ls env)) λb=>some (.bool (!b)):=_root_.id rfl
@[simp] theorem akA (x:OF):UW x ls env=pK (x ls env) λb=>some (.bool (!b)):=_root_.id rfl
@[simp] theorem akB (x:OF):acV x ls env=rA (x ls env) λk n=>some (yK k (· ^^^ ·) (bi k.signed (-1) k.max) n):=_root_.id rfl
@[simp] theorem akC (x:OF):Ja x ls env=rA (x ls env) λk n=>some (.int k (nY k (0-n))):=_root_.id rfl
@[simp] theorem ahg (k:IntKind)(x:OF):Le k x ls env=rA (x ls env) λ_ n=>some (.int k (nY k n)):=_root_.id rfl
@[simp] theorem afD (t:TypeId)(x:OF):OI t x ls env=some (.iface t (x ls env)):=_root_.id rfl
@[simp] theorem ahh (fn:Fn)(a b:List OF):wJ fn a b ls env=some (.func fn (evs a ls env) (evs b ls env)):=_root_.id rfl
@[simp] theorem ZI (x:OF):cK x ls env=Ab (x ls env):=_root_.id rfl
@[simp] theorem ado (i o:Nat):Ab (.ptr i o)=some (.ptr i o):=_root_.id rfl
@[simp] theorem abX (f:FuncId)(a b:List d9):Ab (.func (.func f) a b)=some (.func (.func f) a b):=_root_.id rfl
@[simp] theorem afE (o:Nat)(x:OF):M0 o x ls env=gT (x ls env) λid off=>some (.ptr id (off+o)):=_root_.id rfl
@[simp] theorem ahi (off:Nat)(x:OF):Va off x ls env=tX (x ls env) λcs=>cs[off]?:=by show tX (x ls env) (λcs=>pE off cs)=_;simp
@[simp] theorem ahj (off k:Nat)(x:OF):Vb off k x ls env=tX (x ls env) λcs=>ob (takeN k (cs.drop off)) λl=>some (.agg l):=by show tX (x ls env) (λcs=>ob (takeN k (lX off cs)) λl=>some (d9.agg l))=_;simp
@[simp] theorem adp {α:Type}(l:List α):takeN 0 l=some []:=_root_.id rfl
@[simp] theorem adq {α:Type}(n:Nat)(x:α)(l:List α):takeN (n+1) (x::l)=ob (takeN n l) λr=>some (x::r):=_root_.id rfl
@[simp] theorem akD (x:OF)(i:Nat):pExt x i ls env=KZ (x ls env) λl=>l[i]?:=by show KZ (x ls env) (λl=>pE i l)=_;simp
@[simp] theorem akE (x:OF):Jb x ls env=qD (x ls env) (some (.int .i64 0)) (λ_ _ n _=>some (.int .i64 n)) (λ_ _ n _=>some (.int .i64 n)):=_root_.id rfl
@[simp] theorem ahk (x:OF):Bn x ls env=pF (x ls env) λs=>some (.int .i64 s.length):=by show pF (x ls env) (λs=>some (d9.int .i64 (.ofNat (len' s))))=_;simp
@[simp] theorem akF (x:OF):acW x ls env=qD (x ls env) (some (.int .i64 0)) (λ_ _ _ c=>some (.int .i64 c)) (λ_ _ _ _=>none):=_root_.id rfl
theorem lW (len i:Nat)(k:Nat->Option β)(h:i<len):idx len (.int .i64 i) k=k i:=by show bi (Nat.blt i len) (k i) none=_;rw [show Nat.blt i len=true from X8.mpr h];rfl
@[simp] theorem afF (es:Nat)(x i:OF):bG es x i ls env=qD (x ls env) none (λid off len _=>idx len (i ls env) λk=>some (.ptr id (off+k*es)))
  (λid off len _=>idx len (i ls env) λk=>some (.ptr id (off+k*es))):=rfl
@[simp] theorem ZJ (es n:Nat)(x i:OF):Ac es n x i ls env=gT (x ls env) λid off=>idx n (i ls env) λk=>some (.ptr id (off+k*es)):=_root_.id rfl
@[simp] theorem akG (cs:List d9):lay [] ls env cs=some cs:=_root_.id rfl
theorem Wt (p:Nat×Nat×OF)(l:List (Nat×Nat×OF))(cs:List d9):lay (p::l) ls env cs =
  bi (Nat.beq (len' (p.2.2 ls env).cells) p.2.1) (bi (Nat.ble (Nat.add p.1 p.2.1) (len' cs)) (lay l ls env (kU p.1 (p.2.2 ls env).cells cs)) none) none:=rfl
@[simp] theorem afG (z:List d9)(ps:List (Nat×Nat×OF)):aN z ps ls env=ob (lay ps ls env z) λl=>some (.agg l):=_root_.id rfl
def ld1 (b:Option O6)(off:Nat):Option d9:=Q6 b λrs n rows=>cell1 rs n rows off
def CY (b:Option O6)(off k:Nat):Option d9:=Q6 b λrs n rows=>ob (jR rs n rows off k) λl=>some (.agg l)
def uW (b:Option O6)(off:Nat)(vs:List d9):Option O6:=Q6 b λrs n rows=>ob (U1 rs n rows off vs) λrows'=>some (.cells rs n rows')
@[simp] theorem afH (a:OF):jm a ls env m=gT (a ls env) λid off=>ld1 (m.get id) off:=_root_.id rfl
@[simp] theorem afI (k:Nat)(a:OF):bX k a ls env m=gT (a ls env) λid off=>CY (m.get id) off k:=_root_.id rfl
@[simp] theorem lN (rs n:Nat)(rows:T (List d9))(k:Nat->Nat->T (List d9)->Option β):Q6 (some (.cells rs n rows)) k=k rs n rows:=_root_.id rfl
@[simp] theorem ami (es:List (d9×d9))(k:List (d9×d9)->Option β):Oq (some (.map es)) k=k es:=_root_.id rfl
theorem vT {rs n:Nat}{rows:T (List d9)}{i j:Nat}{row:List d9}(a:j<rs)(d:i<n)(h:rows.get i=some row):cell1 rs n rows (i*rs+j)=row[j]?:=by
 unfold cell1;have b:Nat.div (i*rs+j) rs=i:=by show (i*rs+j) / rs=i;rw [ad4,Nat.mul_add_div (by omega),ai4 a];rfl
 have c:Nat.mod (i*rs+j) rs=j:=by show (i*rs+j)%rs=j;rw [ad4,akj,agp a]
 rw [b,c,h,show Nat.blt i n=true from X8.mpr d];exact jk _ _
theorem yg {rs n:Nat}{rows:T (List d9)}{i j k:Nat}{row:List d9}(c:j<rs)(f:i<n)(h:rows.get i=some row)(g:row.length=rs)(l:j+k<=rs):
  jR rs n rows (i*rs+j) k=some ((row.drop j).take k):=by
 unfold jR;have d:Nat.div (i*rs+j) rs=i:=by show (i*rs+j) / rs=i;rw [ad4,Nat.mul_add_div (by omega),ai4 c];rfl
 have e:Nat.mod (i*rs+j) rs=j:=by show (i*rs+j)%rs=j;rw [ad4,akj,agp c]
 rw [d,e,h,show Nat.blt i n=true from X8.mpr f];simp only [R4,K4,lZ];cases b:Nat.beq j 0 with
 | false=>simp only [O9];exact oD _ _ (by simp;omega)
 | true=>
  have b:=gI b;subst b;simp only [R4];cases a:Nat.beq k rs with
  | true=>have a:=gI a;subst a;simp [g.symm]
  | false=>simp only [O9,U9];exact oD _ _ (by omega)
end
theorem div_lt {a b:Nat}(h:a<b):Nat.div a b=0:=ai4 h
theorem mod_lt {a b:Nat}(h:a<b):Nat.mod a b=a:=agp h
@[simp] theorem ahl (cs:List d9)(off:Nat):ld1 (some (o7 cs)) off=cs[off]?:=by
 show cell1 (len' cs) 1 (.nd .e cs .e) off=_;rw [I5];unfold cell1;by_cases h:off<cs.length;rw [div_lt h,mod_lt h];exact jk _ _;rw [show cs[off]?=none from by simp;omega];by_cases h0:cs.length=0;rw [h0,show Nat.div off 0=0 from Nat.div_zero off,show Nat.mod off 0=off from Nat.mod_zero off];show pE off cs=none;rw [jk];simp;omega;have:1<=Nat.div off cs.length:=(Nat.one_le_div_iff (by omega)).2 (by omega);rw [show Nat.blt (Nat.div off cs.length) 1=false from by
  cases hb:Nat.blt (Nat.div off cs.length) 1 with
  | false=>rfl
  | true=>have:=X8.mp hb;omega]
theorem fP {cs:List d9}{off k:Nat}(h:off+k<=cs.length)(h0:off<cs.length):CY (some (o7 cs)) off k=some (.agg ((cs.drop off).take k)):=by show ob (jR (len' cs) 1 (.nd .e cs .e) off k) (λl=>some (d9.agg l))=_;have:=yg (rs:=cs.length) (n:=1) (rows:=.nd .e cs .e) (i:=0) (j:=off) (k:=k) (row:=cs) h0 (by omega) rfl rfl h;rw [adE,aad] at this;rw [I5,this];rfl
theorem gZ {cs a:List d9}{off:Nat}(h:off+a.length<=cs.length)(h0:off<cs.length):uW (some (o7 cs)) off a=some (o7 (cs.take off++(a++cs.drop (off+a.length)))):=by
 show ob (U1 (len' cs) 1 (.nd .e cs .e) off a) (λb=>some (O6.cells (len' cs) 1 b))=_;have c:Nat.ble (Nat.add off a.length) cs.length=true:=Y3 h;have d:U1 cs.length 1 (.nd .e cs .e) off a=some (T.nd .e (kU off a cs) .e):=by unfold U1;rw [div_lt h0,mod_lt h0,I5];show bi (Nat.ble (Nat.add off a.length) cs.length) (some (T.nd .e (kU off a cs) .e)) none=_;rw [c];rfl
 rw [I5,d,jY off a cs (by omega)];show some (O6.cells cs.length 1 _)=some (O6.cells (len' _) 1 _);rw [I5];congr 2;simp;omega
def Mem.Ok (m:Mem):Prop:=T.Ok m.t m.nx
theorem Mem.Ok.new {m:Mem}(h:m.Ok)(b:O6):(m.new b).Ok:=T.Ok.push h b
theorem Mem.Ok.set {m:Mem}(h:m.Ok){i:Nat}(a:i<m.nx)(b:O6):(m.set i b).Ok:=T.Ok.put h i b a
theorem JM {m:Mem}(h:m.Ok)(b:O6){i:Nat}(a:i=m.nx):(m.new b).get i=some b:=by rw [Mem.J8 h,if_pos a]
theorem PY {m:Mem}(h:m.Ok)(b:O6){i:Nat}(a:i≠m.nx):(m.new b).get i=m.get i:=by rw [Mem.J8 h,if_neg a]
theorem J9 {m:Mem}(h:m.Ok)(b:O6){i j:Nat}(c:j<m.nx)(a:i=j):(m.set j b).get i=some b:=by rw [Mem.U7 h c,if_pos a]
theorem J6 {m:Mem}(h:m.Ok)(b:O6){i j:Nat}(c:j<m.nx)(a:i≠j):(m.set j b).get i=m.get i:=by rw [Mem.U7 h c,if_neg a]
theorem jB {β:Type}{m:Mem}{id off:Nat}{a:List d9}{k:Mem->Option β}(d:m.lim<=id)(c:K5 a=true):storeAt m id off a k=ob (uW (m.get id) off a) λb=>k (m.set id b):=by
 unfold storeAt;rw [show Nat.blt id m.lim=false from by
  cases hb:Nat.blt id m.lim with
  | false=>rfl
  | true=>have:=X8.mp hb;omega,c]
 simp only [O9,R4];unfold uW;match m.get id with
 | some (.cells rs n rows)=>show ob (U1 rs n rows off a) _=ob (ob (U1 rs n rows off a) _) _;cases U1 rs n rows off a<;>rfl
 | some .void | some .dead | some (.map _) | some (.iter ..) | some (.tail _) | some (.loop ..) | some .deferred | some (.siter ..) | some (.buf ..) | some (.mapU _) | none=>rfl
theorem TB (b:Nat)(a x:OF)(cf:D7)(ls:List d9)(env:T d9)(m:Mem):N9 b a x cf ls env m=gT (a ls env) λid off=>
  bi (Nat.beq (x ls env).cells.length b) (storeAt m id off (x ls env).cells λm'=>some [⟨.undef,m'⟩]) none:=by
 show gT (a ls env) (λid off=>bi (Nat.beq (len' (x ls env).cells) b) (storeAt m id off (x ls env).cells λm'=>one .undef m') none)=_;simp only [I5];rfl
@[simp] theorem adr:K5 []=true:=_root_.id rfl
@[simp] theorem bJ (v:d9)(l:List d9):K5 (v::l)=bi (w9 v) (K5 l) false:=_root_.id rfl
section
variable (cf:D7)(ls:List d9)(env:T d9)(m:Mem)(d:d9->T d9->T d9)(k:RC)
@[simp] theorem ahm:o8 cf ls env m=some [⟨env,m,none,[]⟩]:=_root_.id rfl
@[simp] theorem amj (f:PF):J7 f d k cf ls env m=ob (f ls env) λv=>k cf (v::ls) (d v env) m:=_root_.id rfl
@[simp] theorem akH (f:PF):l7 f k cf ls env m=ob (f ls env) λv=>k cf (v::ls) env m:=_root_.id rfl
@[simp] theorem amk (f:RF):Zc f d k cf ls env m=ob (f ls env m) λv=>k cf (v::ls) (d v env) m:=_root_.id rfl
@[simp] theorem akI (f:RF):H6 f k cf ls env m=ob (f ls env m) λv=>k cf (v::ls) env m:=_root_.id rfl
@[simp] theorem afJ:dz m none=m:=_root_.id rfl
@[simp] theorem afK (b:O6):dz m (some b)=m.new b:=_root_.id rfl
@[simp] theorem aml (f:LF):nP f d k cf ls env m=ob (f ls env m.nx) λr=>k cf (r.1::ls) (d r.1 env) (dz m r.2):=_root_.id rfl
@[simp] theorem akJ (f:LF):nu f k cf ls env m=ob (f ls env m.nx) λr=>k cf (r.1::ls) env (dz m r.2):=_root_.id rfl
@[simp] theorem ads (f:EF):OO f d k cf ls env m=bnd (f cf ls env m) λr=>bg r.v (λx=>some [⟨env,r.m,some x,[]⟩]) (k cf (r.v::ls) (d r.v env) r.m):=_root_.id rfl
@[simp] theorem JN (f:EF):D6 f k cf ls env m=bnd (f cf ls env m) λr=>bg r.v (λx=>some [⟨env,r.m,some x,[]⟩]) (k cf (r.v::ls) env r.m):=_root_.id rfl
@[simp] theorem afL (z:List d9)(i:Nat):kY z ls env i=some (.ptr i 0,some (o7 z)):=_root_.id rfl
@[simp] theorem akK (x:OF)(i:Nat):OJ x ls env i=some (.ptr i 0,some (o7 (x ls env).cells)):=_root_.id rfl
@[simp] theorem afM (i:Nat):eZ ls env i=some (.map i,some (.map [])):=_root_.id rfl
@[simp] theorem HZ (l:List d9):(d9.agg l).cells=l:=_root_.id rfl
@[simp] theorem afN (k:IntKind)(n:Int):(d9.int k n).cells=[.int k n]:=_root_.id rfl
@[simp] theorem adt (b:Bool):(d9.bool b).cells=[.bool b]:=_root_.id rfl
@[simp] theorem afO (s:List UInt8):(d9.str s).cells=[.str s]:=_root_.id rfl
@[simp] theorem afP (i o:Nat):(d9.ptr i o).cells=[.ptr i o]:=_root_.id rfl
@[simp] theorem afQ (i:Nat):(d9.map i).cells=[.map i]:=_root_.id rfl
@[simp] theorem cells_func (f:Fn)(a b:List d9):(d9.func f a b).cells=[.func f a b]:=_root_.id rfl
@[simp] theorem abY (a b c d:Nat):(d9.slice a b c d).cells=[.slice a b c d]:=_root_.id rfl
@[simp] theorem ZK (a b c d:Nat):(d9.sliceU a b c d).cells=[.sliceU a b c d]:=_root_.id rfl
@[simp] theorem Wu:d9.nilSlice.cells=[.nilSlice]:=_root_.id rfl
@[simp] theorem ahn (f:FuncId)(as:List OF):F6 f as cf ls env m=cf (.func f) (evs as ls env) m:=_root_.id rfl
@[simp] theorem afR (f:OF)(as:List OF):dL f as cf ls env m=QI cf m (evs as ls env) (f ls env):=_root_.id rfl
@[simp] theorem bO (as:List d9)(f:FuncId)(a b:List d9):QI cf m as (.func (.func f) a b)=cf (.func f) (a++(as++b)) m:=by show cf (.func f) (V8 a (V8 as b)) m=_;simp
end
@[simp] theorem aho (b:Bool):pG true (.bool b)=b:=by cases b<;>rfl
@[simp] theorem afS (b:Bool):pG false (.bool b)=!b:=by cases b<;>rfl
section
variable (w:Bool)(x:OF)(ls:List d9)(env:T d9)(m:Mem)
@[simp] theorem apX (f:PF):gP x w f ls env=bi (pG w (x ls env)) (f ls env) (some .undef):=_root_.id rfl
@[simp] theorem amm (f:RF):Vh x w f ls env m=bi (pG w (x ls env)) (f ls env m) (some .undef):=_root_.id rfl
@[simp] theorem amn (f:LF)(i:Nat):gLk x w f ls env i=bi (pG w (x ls env)) (f ls env i) (some (.undef,none)):=_root_.id rfl
@[simp] theorem apY (f:EF)(cf:D7):gE x w f cf ls env m=bi (pG w (x ls env)) (f cf ls env m) (some [⟨.undef,m⟩]):=_root_.id rfl
end
@[simp] theorem T.ahp {α:Type}(x:α)(t:T α)(i:Nat):T.rep x 0 t i=t:=_root_.id rfl
attribute [simp] T.DJ T.V3 T.dB
section
variable (cf:D7)(fu:Nat)(ir:Option Nat)(env:T d9)(m:Mem)(k:List Mk)
@[simp] theorem akL (x:bI):ou x env m k=some [⟨x,env,m,k,none⟩]:=_root_.id rfl
@[simp] theorem afT:F9 cf fu ir env m k=some [⟨.normal,env,m,k,none⟩]:=_root_.id rfl
@[simp] theorem zF (r:RC):j5 r cf fu ir env m k=bnd (r cf [] env m) (gU k):=_root_.id rfl
@[simp] theorem afU:gU k ⟨env,m,none,[]⟩=some [⟨.normal,env,m,k,none⟩]:=_root_.id rfl
@[simp] theorem afV (n:Nat)(r:DC):bN n r cf fu ir env m k=bnd (r cf m.nx [] env (reserve n m) [reserve n m]) (gU k):=_root_.id rfl
def ZL (b:SC)(cf:D7)(fu:Nat)(ir:Option Nat)(o:Out):Option (List Out):=bI.rec (b cf fu ir o.env o.m o.marks) (λ_=>some [o]) (some [o]) o.x
@[simp] theorem uX (a b:SC):j4 a b cf fu ir env m k=bnd (a cf fu ir env m k) (ZL b cf fu ir):=_root_.id rfl
@[simp] theorem abZ (b:SC)(p:Option d9):ZL b cf fu ir ⟨.normal,env,m,k,p⟩=b cf fu ir env m k:=_root_.id rfl
@[simp] theorem afW (b:SC)(i:Nat)(p:Option d9):ZL b cf fu ir ⟨.exit i,env,m,k,p⟩=some [⟨.exit i,env,m,k,p⟩]:=_root_.id rfl
@[simp] theorem ahq (b:SC)(p:Option d9):ZL b cf fu ir ⟨.ret,env,m,k,p⟩=some [⟨.ret,env,m,k,p⟩]:=_root_.id rfl
@[simp] theorem afX (c:OF)(a b:SC):u7 c a b cf fu ir env m k=pK (c [] env) λt=>bi t (a cf fu ir env m k) (b cf fu ir env m k):=_root_.id rfl
def TD (id:Nat)(o:Out):Option (List Out):=bI.rec (some [o]) (λid'=>bi (Nat.beq id id') (ou .normal o.env o.m o.marks) (some [o])) (some [o]) o.x
@[simp] theorem adu (id:Nat)(a:SC):G8 id a cf fu ir env m k=bnd (a cf fu ir env m k) (TD id):=_root_.id rfl
@[simp] theorem ac0 (id:Nat)(p:Option d9):TD id ⟨.normal,env,m,k,p⟩=some [⟨.normal,env,m,k,p⟩]:=_root_.id rfl
@[simp] theorem ahr (id:Nat)(p:Option d9):TD id ⟨.ret,env,m,k,p⟩=some [⟨.ret,env,m,k,p⟩]:=_root_.id rfl
@[simp] theorem afY (id i:Nat)(p:Option d9):TD id ⟨.exit i,env,m,k,p⟩=bi (Nat.beq id i) (some [⟨.normal,env,m,k,none⟩]) (some [⟨.exit i,env,m,k,p⟩]):=_root_.id rfl
@[simp] theorem afZ (a:SC):U3 a cf fu ir env m k=I4 (λenv m k=>a cf fu ir env m k) fu env m k:=_root_.id rfl
def EJ (f:T d9->Mem->List Mk->Option (List Out))(o:Out):Option (List Out):=bI.rec (f o.env o.m o.marks) (λ_=>some [o]) (some [o]) o.x
theorem p9 (a:T d9->Mem->List Mk->Option (List Out))(n:Nat):I4 a (n+1) env m k=bnd (a env m k) (EJ (I4 a n)):=rfl
@[simp] theorem zG (f:T d9->Mem->List Mk->Option (List Out))(p:Option d9):EJ f ⟨.normal,env,m,k,p⟩=f env m k:=_root_.id rfl
@[simp] theorem adv (f:T d9->Mem->List Mk->Option (List Out))(i:Nat)(p:Option d9):EJ f ⟨.exit i,env,m,k,p⟩=some [⟨.exit i,env,m,k,p⟩]:=_root_.id rfl
@[simp] theorem ag0 (f:T d9->Mem->List Mk->Option (List Out))(p:Option d9):EJ f ⟨.ret,env,m,k,p⟩=some [⟨.ret,env,m,k,p⟩]:=_root_.id rfl
@[simp] theorem ag1 (id:Nat):rM id cf fu ir env m k=some [⟨.exit id,env,m,k,none⟩]:=_root_.id rfl
@[simp] theorem ahs:A9 cf fu ir env m k=some [⟨.ret,env,m,k,none⟩]:=_root_.id rfl
end
section
variable (cf:D7)(b:Nat)(ls:List d9)(env:T d9)(m:Mem)(gs:List Mem)(d:d9->T d9->T d9)(k:DC)(c:Nat)
attribute [simp] JE JF
@[simp] theorem aht:pR cf b ls env m gs=some [⟨env,m,none,[]⟩]:=_root_.id rfl
@[simp] theorem amo (f:PF):R9 f d k cf b ls env m gs=ob (f ls env) λv=>k cf b (v::ls) (d v env) m gs:=_root_.id rfl
@[simp] theorem amq (f:RF):jT f c d k cf b ls env m gs=ob (f ls env (hd m gs)) λv=>bi (stable f ls env v c (tl gs)) (k cf b (v::ls) (d v env) m gs) none:=_root_.id rfl
@[simp] theorem amr (f:LF):dcL f c d k cf b ls env m gs=ob (f ls env (b+c)) λr=>bi (isVoid (m.get (b+c))) (bi (lQ (b+c) gs) (k cf b (r.1::ls) (d r.1 env) (Lh m (b+c) r.2) gs) none) none:=_root_.id rfl
@[simp] theorem ams (f:EF)(a:GF):vK f a d k cf b ls env m gs=OP (f cf ls env m) λr=>bg r.v (λx=>ob (a b (.undef::ls) (d .undef env) m (m::gs) [env]) λes=>some (uh r.m x es)) (k cf b (r.v::ls) (d r.v env) r.m (r.m::gs)):=_root_.id rfl
section
variable (es:List (T d9))(g:GF)
@[simp] theorem ahu:dR b ls env m gs es=some es:=_root_.id rfl
@[simp] theorem amt:Sq b ls env m gs es=none:=_root_.id rfl
@[simp] theorem amu:jU d g b ls env m gs es=g b (.undef::ls) (d .undef env) m gs es:=_root_.id rfl
@[simp] theorem amv:xC d g b ls env m gs es=g b (.undef::ls) (d .undef env) m (m::gs) es:=_root_.id rfl
@[simp] theorem amw (f:PF)(w:Bool):bZ f w d g b ls env m gs es=ob (f ls env) λv=>bi (Sr w v) (g b (v::ls) (d v env) m gs (UE w (d v) es)) none:=_root_.id rfl
@[simp] theorem amx (f:RF)(c:Nat)(w:Bool):CR f c w d g b ls env m gs es=ob (f ls env (hd m gs)) λv=>bi (stable f ls env v c (tl gs)) (bi (Sr w v) (g b (v::ls) (d v env) m gs (UE w (d v) es)) none) none:=_root_.id rfl
@[simp] theorem amy (f:LF)(c:Nat):ghL f c g b ls env m gs es=ob (f ls env (b+c)) λr=>bi (isVoid (m.get (b+c))) (bi (lQ (b+c) gs) (g b (r.1::ls) env (Lh m (b+c) r.2) gs es) none) none:=_root_.id rfl
@[simp] theorem adw (v:d9):Sr false v=true:=_root_.id rfl
@[simp] theorem ahv (w:Bool)(k:IntKind)(n:Int):Sr w (.int k n)=true:=by cases w<;>rfl
@[simp] theorem ag2 (f:T d9->T d9):UE false f es=es:=_root_.id rfl
@[simp] theorem ag3 (f:T d9->T d9)(x:T d9):UE true f [x]=[x,f x]:=_root_.id rfl
@[simp] theorem ag4 (x:d9):uh m x []=[]:=_root_.id rfl
@[simp] theorem adx (x:d9)(y:T d9):uh m x (y::es)=⟨y,m,some x,[]⟩::uh m x es:=_root_.id rfl
end
@[simp] theorem akM (g:Mem):hd m (g::gs)=g:=_root_.id rfl
@[simp] theorem akN (g:Mem):tl (g::gs)=gs:=_root_.id rfl
@[simp] theorem ag5 (i:Nat)(x:O6):Lh m i (some x)=m.set i x:=_root_.id rfl
@[simp] theorem ac3:isVoid (some .void)=true:=_root_.id rfl
@[simp] theorem ac4 (i:Nat):lQ i []=true:=_root_.id rfl
@[simp] theorem ZM (i:Nat)(g:Mem):lQ i (g::gs)=bi (isVoid (g.get i)) (lQ i gs) false:=_root_.id rfl
@[simp] theorem ac5 (f:RF)(v:d9):stable f ls env v 0 gs=true:=_root_.id rfl
@[simp] theorem ac6 (f:RF)(v:d9)(n:Nat)(g:Mem):stable f ls env v (n+1) (g::gs)=bi (Option.rec false (λu=>aB 100 u v) (f ls env g)) (stable f ls env v n gs) false:=_root_.id rfl
end
@[simp] theorem Wv (env:T d9):cO [] [] env=some env:=_root_.id rfl
@[simp] theorem UF (j:Option Nat)(a:List (Option Nat))(v:d9)(b:List d9)(env:T d9):cO (j::a) (v::b) env=cO a b (bW j v env):=_root_.id rfl
@[simp] theorem ag6 (a:jV)(rs:List pz)(env:T d9)(m:Mem):leave a rs ⟨.ret,env,m,[],none⟩=ob (results rs env m) λl=>some [⟨result l,m⟩]:=_root_.id rfl
@[simp] theorem ZN (a:jV)(rs:List pz)(env:T d9)(m:Mem):leave a rs ⟨.normal,env,m,[],none⟩=ob (results rs env m) λl=>some [⟨result l,m⟩]:=_root_.id rfl
@[simp] theorem ac7 (env:T d9)(m:Mem):results [] env m=some []:=_root_.id rfl
@[simp] theorem results_tmp (j:Nat)(rs:List pz)(env:T d9)(m:Mem):results (.tmp j::rs) env m=ob (env.get j) λv=>ob (results rs env m) λl=>some (v::l):=_root_.id rfl
@[simp] theorem ady:result []=.tuple []:=_root_.id rfl
@[simp] theorem adz (v:d9):result [v]=v:=_root_.id rfl
@[simp] theorem adA (v x:d9)(l:List d9):result (v::x::l)=.tuple (v::x::l):=_root_.id rfl
structure Ext (m m':Mem):Prop where
 ok:T.Ok m'.t m'.nx
 nx:m.nx<=m'.nx
 lim:m'.lim=m.lim
 old:∀i,i<m.nx->m'.get i=m.get i
theorem Ext.refl {m:Mem}(h:T.Ok m.t m.nx):Ext m m:=⟨h,J2 _,rfl,λ_ _=>rfl⟩
theorem Ext.trans {a b c:Mem}(h:Ext a b)(k:Ext b c):Ext a c:=
 ⟨k.ok,aP h.nx k.nx,k.lim.trans h.lim,λi d=>(k.old i (gq d h.nx)).trans (h.old i d)⟩
theorem Ext.new {a m:Mem}(h:Ext a m)(b:O6):Ext a (m.new b):=
 ⟨h.ok.push b,aib h.nx,h.lim,λi c=>by rw [Mem.J8 h.ok,if_neg (by have:=h.nx;omega)];exact h.old i c⟩
theorem Ext.set {a m:Mem}(h:Ext a m){i:Nat}(c:i<m.nx)(e:a.nx<=i)(b:O6):Ext a (m.set i b):=
 ⟨h.ok.put _ _ c,h.nx,h.lim,λj d=>by rw [Mem.U7 h.ok c,if_neg (by omega)];exact h.old j d⟩
theorem Ext.get {a m:Mem}(h:Ext a m){i:Nat}{b:O6}(d:T.Ok a.t a.nx)(c:a.get i=some b):m.get i=some b:=
 (h.old i (Mem.H9 d c)).trans c
def wG (m:Mem)(v:d9)(xs:List Int):Prop:=
 (v=.nilSlice∧xs=[])∨∃p:Nat×Nat,((∃c,v=.slice p.1 p.2 xs.length c)∨∃es,v=.sliceU p.1 p.2 xs.length es)∧p.1<m.nx∧(xs=[]∨∃n rows,m.get p.1=some (.cells 1 n rows)∧p.2+xs.length<=n∧∀i (h:i<xs.length),rows.get (p.2+i)=some [.int .i64 xs[i]])
theorem wG.ext {m m':Mem}(h:Ext m m'){v:d9}{xs:List Int}(a:wG m v xs):wG m' v xs:=by rcases a with a | ⟨id,h1,h2,h3⟩;exact .inl a;refine .inr ⟨id,h1,gq h2 h.nx,?_⟩;rcases h3 with h3 | ⟨n,rows,h4,h5,h6⟩;exact .inl h3;exact .inr ⟨n,rows,(h.old id.1 h2).trans h4,h5,h6⟩
theorem Rm {n i:Nat}{rows:T (List d9)}{v:d9}(h:i<n)(a:rows.get i=some [v]):ld1 (some (.cells 1 n rows)) i=some v:=by have:=vT (rs:=1) (n:=n) (rows:=rows) (i:=i) (j:=0) (by omega) h a;rw [ald] at this;exact this
theorem P9 {i:Nat}(h:i<4611686018427387904):mK ((i:Int)+1)=((i+1:Nat):Int):=by rw [O0 (by omega) (by omega)];rfl
theorem wG.at {m:Mem}{v:d9}{xs:List Int}(h:wG m v xs){i:Nat}(a:i<xs.length):
  ∃q:Nat×Nat,qD v none (λid off len _=>idx len (.int .i64 i) λk=>some (d9.ptr id (off+k))) (λid off len _=>idx len (.int .i64 i) λk=>some (d9.ptr id (off+k)))=some (.ptr q.1 q.2)∧q.1<m.nx∧ld1 (m.get q.1) q.2=some (.int .i64 xs[i]):=by
 rcases h with⟨_,rfl⟩ | ⟨id,h1,h2,h3⟩;simp at a;rcases h3 with rfl | ⟨n,rows,h4,h5,h6⟩;simp at a;refine⟨(id.1,id.2+i),?_,h2,by rw [h4];exact Rm (by omega) (h6 i a)⟩;rcases h1 with⟨c,rfl⟩ | ⟨c,rfl⟩;simp only [qU];rw [lW _ _ _ a];simp only [oP];rw [lW _ _ _ a]
theorem wG.cells {m:Mem}{v:d9}{xs:List Int}(h:wG m v xs):v.cells=[v]:=by rcases h with⟨rfl,rfl⟩ | ⟨id,⟨c,rfl⟩ | ⟨c,rfl⟩,_⟩<;>rfl
theorem wG.mq {m:Mem}{v:d9}{xs:List Int}(h:wG m v xs){β:Type}(p:d9->β)(q:β):bg v p q=q:=by rcases h with⟨rfl,rfl⟩ | ⟨id,⟨c,rfl⟩ | ⟨c,rfl⟩,_⟩<;>rfl
theorem wG.w9 {m:Mem}{v:d9}{xs:List Int}(h:wG m v xs):Go.AM.w9 v=true:=by rcases h with⟨rfl,rfl⟩ | ⟨id,⟨c,rfl⟩ | ⟨c,rfl⟩,_⟩<;>rfl
theorem wG.len {m:Mem}{v:d9}{xs:List Int}(h:wG m v xs):qD v (some (d9.int .i64 0)) (λ_ _ n _=>some (.int .i64 n)) (λ_ _ n _=>some (.int .i64 n))=some (.int .i64 xs.length):=by rcases h with⟨rfl,rfl⟩ | ⟨id,⟨c,rfl⟩ | ⟨c,rfl⟩,_⟩<;>rfl
theorem wG.lenOf {m:Mem}{v:d9}{xs:List Int}(h:wG m v xs):Go.AM.lenOf v=some xs.length:=by rcases h with⟨rfl,rfl⟩ | ⟨id,⟨c,rfl⟩ | ⟨c,rfl⟩,_⟩<;>rfl
def ints (xs:List Int):List d9:=xs.map (d9.int .i64)
namespace T
variable {α:Type}
theorem ZO {t:T α}{n:Nat}(h:Ok t n):∀i (x y:α),i<=n->(t.put i x).put i y=t.put i y:=by
 induction h with
 | e=>intro i x y b;obtain rfl:i=0:=by omega
      rfl
 | @nd l r z n hl hr ihl ihr=>
  intro i x y b;cases i with
  | zero=>rfl
  | succ i=>rw [V3,V3];split;rename_i a;rw [V3,if_pos a,ihl _ _ _ (by omega)];rename_i a;rw [V3,if_neg a,ihr _ _ _ (by omega)]
theorem put_comm {t:T α}{n:Nat}(h:Ok t n):∀i (x y:α),i<n->(t.put n x).put i y=(t.put i y).put n x:=by
 induction h with
 | e=>intro i x y a;omega
 | @nd l r z n hl hr ihl ihr=>
  intro i x y a;cases i with
  | zero=>rw [V3,Lu,V3];split<;>rfl
  | succ i=>
   rw [V3 (i:=n),V3 (i:=i)];by_cases hn:n%2=0;rw [if_pos hn,V3];by_cases h0:i%2=0;rw [if_pos h0,if_pos h0,V3,if_pos hn];have e:(n+1) / 2=n / 2:=by omega
   rw [e] at hl ihl;have:=ihl (i / 2) x y (by omega);rw [this];rw [if_neg h0,if_neg h0,V3,if_pos hn];rw [if_neg hn,V3];by_cases h0:i%2=0;rw [if_pos h0,if_pos h0,V3,if_neg hn];rw [if_neg h0,if_neg h0,V3,if_neg hn];have:=ihr (i / 2) x y (by omega);rw [this]
end T
theorem zH {α:Type}{p:List α->Prop}(h0:p [])(hs:∀l b,p l->p (l ++ [b])):∀l,p l:=by
 intro l;have:p l.reverse.reverse:=by
  generalize l.reverse=r;induction r with
  | nil=>exact h0
  | cons x r ih=>rw [List.reverse_cons];exact hs _ _ ih
 rwa [List.reverse_reverse] at this
def ext (m:Mem)(l:List O6):Mem:=l.foldl Mem.new m
theorem H8 (m:Mem)(b:O6):m.new b=ext m [b]:=rfl
theorem I8 (m:Mem)(l a:List O6):ext (ext m l) a=ext m (l++a):=by simp [ext]
theorem ext_nil (m:Mem):ext m []=m:=rfl
theorem oQ (m:Mem)(l:List O6)(b:O6):ext m (l ++ [b])=(ext m l).new b:=by simp [ext]
@[simp] theorem EK (m:Mem)(l:List O6):(ext m l).nx=m.nx+l.length:=by
 induction l using zH with
 | h0=>rfl
 | hs l b ih=>rw [oQ,Mem.LA,ih];simp;omega
@[simp] theorem Rn (m:Mem)(l:List O6):(ext m l).lim=m.lim:=by
 induction l using zH with
 | h0=>rfl
 | hs l b ih=>rw [oQ,Mem.Zh,ih]
theorem yh {m:Mem}(a:m.Ok)(l:List O6):(ext m l).Ok:=by
 induction l using zH with
 | h0=>exact a
 | hs l b ih=>rw [oQ];exact ih.new b
theorem ext_get {m:Mem}(a:m.Ok)(l:List O6)(i:Nat):(ext m l).get i=if i<m.nx then m.get i else l[i-m.nx]?:=by
 induction l using zH with
 | h0=>
  rw [ext_nil];split;rfl;cases h:m.get i with
  | none=>simp
  | some b=>have:=Mem.H9 a h;omega
 | hs l b ih=>rw [oQ,Mem.J8 (yh a l),ih,EK];by_cases h1:i<m.nx;rw [if_neg (by omega),if_pos h1,if_pos h1];rw [if_neg h1,if_neg h1];by_cases h2:i=m.nx+l.length;rw [if_pos h2,aat (by omega),show i-m.nx-l.length=0 from by omega];rfl;rw [if_neg h2];by_cases h3:i-m.nx<l.length;rw [Z9 h3];rw [aeh (by omega),aeh (by simp;omega)]
theorem O4 {m:Mem}(a:m.Ok)(l:List O6)(c:Nat):(ext m l).get (m.nx+c)=l[c]?:=by rw [ext_get a,if_neg (by omega),show m.nx+c-m.nx=c from by omega]
theorem A8 {m:Mem}(a:m.Ok)(l:List O6):(ext m l).get m.nx=l[0]?:=O4 a l 0
theorem aV {m:Mem}(a:m.Ok)(l:List O6){i:Nat}(h:i<m.nx):(ext m l).get i=m.get i:=by rw [ext_get a,if_pos h]
theorem G7 {m:Mem}(a:m.Ok)(l:List O6):Ext m (ext m l):=⟨yh a l,by simp,by simp,λi b=>aV a l b⟩
theorem Mem.JO {m:Mem}(c:m.Ok)(a b:O6):(m.new a).set m.nx b=m.new b:=by show (⟨(m.t.put m.nx a).put m.nx b,_,_⟩:Mem)=_;rw [T.ZO c _ _ _ (J2 _)];rfl
theorem Mem.MV {m:Mem}(c:m.Ok)(a b:O6){i:Nat}(h:i<m.nx):(m.new a).set i b=(m.set i b).new a:=by show (⟨(m.t.put m.nx a).put i b,_,_⟩:Mem)=⟨(m.t.put i b).put m.nx a,_,_⟩;rw [T.put_comm c _ _ _ h];rfl
theorem jL {m:Mem}(d:m.Ok)(l:List O6)(c:Nat)(b:O6)(h:c<l.length):(ext m l).set (m.nx+c) b=ext m (l.set c b):=by
 induction l using zH with
 | h0=>simp at h
 | hs l a ih=>
  rw [oQ];by_cases h1:c<l.length;rw [Mem.MV (yh d l) _ _ (by rw [EK];omega),ih h1,List.set_append_left _ _ h1,oQ];have:c=l.length:=by simp at h;omega
  subst this;have e:m.nx+l.length=(ext m l).nx:=by simp
  rw [e,Mem.JO (yh d l),List.set_append_right _ _ (J2 _)];simp [oQ]
theorem kI {m:Mem}(a:m.Ok)(l:List O6)(b:O6)(h:0<l.length):(ext m l).set m.nx b=ext m (l.set 0 b):=jL a l 0 b h
end
end Go.AM
namespace Go.AM
open Go
theorem iG {α:Type}(a b:Nat)(x y:α):bi (Nat.beq a b) x y=if a=b then x else y:=uH a b x y
theorem Ia {α:Type}(a b:Nat)(x y:α):bi (Nat.ble a b) x y=if a<=b then x else y:=by
 cases h:Nat.ble a b with
 | true=>rw [if_pos (Xd h)];rfl
 | false=>rw [if_neg (λc=>by rw [Y3 c] at h;cases h)];rfl
theorem TF {α:Type}(a b:Nat)(x y:α):bi (Nat.blt a b) x y=if a<b then x else y:=Ia (a+1) b x y
theorem PZ (ls:List d9)(env:T d9)(p:Nat×Nat×OF)(l:List (Nat×Nat×OF))(cs:List d9):lay (p::l) ls env cs =
  if (p.2.2 ls env).cells.length=p.2.1 then if p.1+p.2.1<=cs.length then lay l ls env (cs.take p.1++((p.2.2 ls env).cells++cs.drop (p.1+(p.2.2 ls env).cells.length))) else none else none:=by
 rw [Wt,iG,I5,I5];split;rename_i h;show bi (Nat.ble (p.1+p.2.1) cs.length) _ _=_;rw [Ia];split;rename_i a;rw [jY _ _ _ (by omega)];rfl;rfl
theorem TG (b:Nat)(a x:OF)(cf:D7)(ls:List d9)(env:T d9)(m:Mem):N9 b a x cf ls env m=gT (a ls env) λid off=>
  if (x ls env).cells.length=b then storeAt m id off (x ls env).cells λm'=>some [⟨.undef,m'⟩] else none:=by
 rw [TB];simp only [iG]
theorem nV {β:Type}{m:Mem}(d:m.Ok)(e:m.lim<=m.nx)(l:List O6)(c off:Nat)(a:List d9)(k:Mem->Option β):
  storeAt (ext m l) (m.nx+c) off a k=bi (K5 a) (ob (uW l[c]? off a) λb=>k (ext m (l.set c b))) none:=by
 cases h1:K5 a with
 | false=>unfold storeAt;rw [h1];cases Nat.blt (m.nx+c) (ext m l).lim<;>rfl
 | true=>rw [jB (by rw [Rn];omega) h1,O4 d,R4];by_cases hc:c<l.length;congr 1;funext b;rw [jL d _ _ _ hc];rw [aeh (by omega)];rfl
theorem ig {β:Type}{m:Mem}(d:m.Ok)(c:m.lim<=m.nx)(l:List O6)(off:Nat)(a:List d9)(k:Mem->Option β):
  storeAt (ext m l) m.nx off a k=bi (K5 a) (ob (uW l[0]? off a) λb=>k (ext m (l.set 0 b))) none:=nV d c l 0 off a k
@[simp] theorem ZP (j:Nat)(k:Nat)(rs:List pz)(env:T d9)(m:Mem):results (.cell j (some k)::rs) env m=ob (ob (env.get j) λp=>gT p λid off=>CY (m.get id) off k) λv=>ob (results rs env m) λl=>some (v::l):=id rfl
@[simp] theorem YG (j:Nat)(rs:List pz)(env:T d9)(m:Mem):results (.cell j none::rs) env m=ob (ob (env.get j) λp=>gT p λid off=>ld1 (m.get id) off) λv=>ob (results rs env m) λl=>some (v::l):=id rfl
end Go.AM
namespace Go.AM
open Go
section
variable {α β:Type}
@[congr] theorem ahw {b b':Bool}{x a y y':α}(hb:b=b')(c:b'=true->x=a)(d:b'=false->y=y'):bi b x y=bi b' a y':=by
 subst hb;cases b with
 | true=>exact c rfl
 | false=>exact d rfl
@[simp] theorem akO (b:Bool)(x:α):bi b x x=x:=by cases b<;>rfl
@[simp] theorem amz (b:Bool)(x y:α):bi (!b) x y=bi b y x:=by cases b<;>rfl
theorem adB (b:Bool)(x y:α)(k:α->Option β):ob (bi b (some x) (some y)) k=k (bi b x y):=by cases b<;>rfl
theorem ZQ (b:Bool)(x y:α)(k:α->Option (List β)):bnd (bi b (some [x]) (some [y])) k=k (bi b x y):=by cases b<;>rfl
theorem Ww (b:Bool)(x y:α)(k:α->Option β):OP (bi b (some [x]) (some [y])) k=k (bi b x y):=by cases b<;>rfl
end
@[simp] theorem ac8 (b c:Bool):bi b (d9.bool c) (d9.bool false)=.bool (b&&c):=by cases b<;>rfl
@[simp] theorem adC (b c:Bool):bi b (d9.bool true) (d9.bool c)=.bool (b||c):=by cases b<;>rfl
@[simp] theorem akP {β:Type}(b:Bool)(v w:d9)(p:d9->β)(q:β):bg (bi b v w) p q=bi b (bg v p q) (bg w p q):=by cases b<;>rfl
end Go.AM
namespace Go.AM
open Go
section
variable {α:Type}(a b c:Bool)(x y z:α)
@[simp] theorem akQ:bi b (bi b x y) z=bi b x z:=by cases b<;>rfl
@[simp] theorem ahx:bi b x (bi b y z)=bi b x z:=by cases b<;>rfl
@[simp] theorem akR:bi (b&&c) (bi b x y) z=bi (b&&c) x z:=by cases b<;>cases c<;>rfl
@[simp] theorem akS:bi (b&&c) (bi c x y) z=bi (b&&c) x z:=by cases b<;>cases c<;>rfl
@[simp] theorem amA:bi (b||c) x (bi b y z)=bi (b||c) x z:=by cases b<;>cases c<;>rfl
@[simp] theorem amB:bi (b||c) x (bi c y z)=bi (b||c) x z:=by cases b<;>cases c<;>rfl
end
end Go.AM
namespace Go.AM
open Go
@[simp] theorem apZ (b:Bool)(f a:T d9)(m m':Mem)(p d:Option d9)(k c:List Mk):bi b (⟨f,m,p,k⟩:EM) ⟨a,m',d,c⟩=⟨bi b f a,bi b m m',bi b p d,bi b k c⟩:=by cases b<;>rfl
@[simp] theorem aq0 (b:Bool)(l a r c:T d9)(x d:d9):bi b (T.nd l x r) (T.nd a d c)=.nd (bi b l a) (bi b x d) (bi b r c):=by cases b<;>rfl
@[simp] theorem amC (b:Bool)(v w:d9)(m m':Mem):bi b (⟨v,m⟩:VM) ⟨w,m'⟩=⟨bi b v w,bi b m m'⟩:=by cases b<;>rfl
end Go.AM
namespace Go.AM
open Go
@[simp] theorem ag7 (w:Bool):pG w .undef=false:=id rfl
end Go.AM
namespace Go.AM
open Go
@[simp] theorem TH (c:List PK)(a b:List d9):xw c (.agg a) (.agg b)=bF c a b:=id rfl
@[simp] theorem ag8:bF [] [] []=some true:=id rfl
@[simp] theorem TI (k:PK)(c:List PK)(x y:d9)(a b:List d9):bF (k::c) (x::a) (y::b)=ob (FN k x y) λr=>bi r (bF c a b) (some false):=id rfl
@[simp] theorem amD:FN .i=K8:=id rfl
@[simp] theorem ahy (k:IntKind)(a b:Int):K8 (.int k a) (.int k b)=some (decide (a=b)):=by show bi (YU k k) (some (bL a b)) none=_;rw [EI,fO,show (a==b)=decide (a=b) from rfl];rfl
@[simp] theorem ac9 (b c:Bool):bi b (some c) (some false)=some (b&&c):=by cases b<;>rfl
theorem vU (n:Nat)(k:IntKind)(i:Int):aB (n+1) (.int k i) (.int k i)=true:=by show bi (YU k k) (bL i i) false=true;rw [EI,fO];simp
theorem jM (f:d9->d9->Bool)(x y:d9)(a b:List d9):tC f (x::a) (y::b)=bi (f x y) (tC f a b) false:=rfl
theorem zI (f:d9->d9->Bool):tC f [] []=true:=rfl
theorem Ib (n:Nat)(a b:List d9):aB (n+1) (.agg a) (.agg b)=tC (aB n) a b:=rfl
end Go.AM
namespace Go.AM
open Go
section
variable {α β:Type}
@[congr] theorem aq1 {o a:Option α}{k:α->Option β}(h:o=a):ob o k=ob a k:=by rw [h]
@[congr] theorem amE {o a:Option (List α)}{k:α->Option (List β)}(h:o=a):bnd o k=bnd a k:=by rw [h]
@[congr] theorem akT {o a:Option (List α)}{k:α->Option β}(h:o=a):OP o k=OP a k:=by rw [h]
@[congr] theorem akU {v v':d9}{p:d9->β}{q:β}(h:v=v'):bg v p q=bg v' p q:=by rw [h]
@[congr] theorem akV {v v':d9}{k:Nat->Nat->Option β}(h:v=v'):gT v k=gT v' k:=by rw [h]
@[congr] theorem akW {v v':d9}{k:IntKind->Int->Option β}(h:v=v'):rA v k=rA v' k:=by rw [h]
@[congr] theorem ahz {v v':d9}{k:Bool->Option β}(h:v=v'):pK v k=pK v' k:=by rw [h]
@[congr] theorem akX {v v':d9}{k:List d9->Option β}(h:v=v'):tX v k=tX v' k:=by rw [h]
@[congr] theorem akY {v v':d9}{k:List d9->Option β}(h:v=v'):KZ v k=KZ v' k:=by rw [h]
@[congr] theorem akZ {v v':d9}{k:List UInt8->Option β}(h:v=v'):pF v k=pF v' k:=by rw [h]
@[congr] theorem al0 {v v':d9}{k:Nat->Option β}(h:v=v'):jQ v k=jQ v' k:=by rw [h]
end
end Go.AM
namespace Go.AM
open Go
section
variable {α β:Type}
@[simp high] theorem ag9 (a:α)(k:α->Option β):ob (some a) k=k a:=id rfl
@[simp high] theorem aga (k:α->Option β):ob none k=none:=id rfl
@[simp high] theorem agb (x y:α):bi true x y=x:=id rfl
@[simp high] theorem adD (x y:α):bi false x y=y:=id rfl
@[simp high] theorem al1 (i:Nat):(T.e:T α).get i=none:=id rfl
@[simp high] theorem adF (l:T α)(x:α)(r:T α):(T.nd l x r).get 0=some x:=id rfl
@[simp high] theorem al2 (i:Nat)(x:α):(T.e:T α).put i x=.nd .e x .e:=id rfl
@[simp high] theorem adG (l:T α)(y:α)(r:T α)(x:α):(T.nd l y r).put 0 x=.nd l x r:=id rfl
@[simp high] theorem adH (x:α)(n:Nat)(t:T α)(i:Nat):T.rep x (n+1) t i=T.rep x n (t.put i x) (i+1):=id rfl
@[simp high] theorem Wx (m:Mem):reserve 0 m=m:=id rfl
@[simp high] theorem Wy (n:Nat)(m:Mem):reserve (n+1) m=reserve n (m.new .void):=id rfl
@[simp high] theorem adI (m:Mem)(b:O6):(m.new b).nx=m.nx+1:=id rfl
@[simp high] theorem agc (m:Mem)(b:O6):(m.new b).lim=m.lim:=id rfl
@[simp high] theorem adJ (m:Mem)(i:Nat)(b:O6):(m.set i b).nx=m.nx:=id rfl
@[simp high] theorem agd (m:Mem)(i:Nat)(b:O6):(m.set i b).lim=m.lim:=id rfl
end
end Go.AM
namespace Go.AM
open Go
@[simp] theorem acd:aB 100 .undef .undef=true:=id rfl
end Go.AM
namespace Go.AM
open Go
end Go.AM
namespace Go.AM
open Go
theorem MW {β:Type}{es:Nat}{cells:List d9}(h:cells.length=es)(k:O6->Option β):yN es 1 cells k=k (o7 cells):=by show ob (ob (takeN es cells) λr=>ob (rowsOf es 0 (lX es cells)) λa=>some (r::a)) (λb=>k (.cells es 1 (T.ofList b)))=_;rw [oD _ _ (by omega),K4,lZ,aeb (by omega),W9 (by omega)];show k (.cells es 1 (.nd .e cells .e))=k (.cells (len' cells) 1 (.nd .e cells .e));rw [I5,h]
theorem kJ (es:Nat)(zero:List d9)(ps:List (Nat×Nat×OF))(ls:List d9)(env:T d9)(a:Nat)(f:zero.length=es):U6 es 1 zero ps ls env a=ob (lay ps ls env zero) λcells=>if cells.length=es then some (.slice a 0 1 1,some (o7 cells)) else none:=by
 show ob (lay ps ls env (V8 zero [])) (λcells=>yN es 1 cells λb=>some (d9.slice a 0 1 1,some b))=_;rw [Q9,ae8];congr 1;funext cells;split;rename_i h;rw [MW h];rename_i h;show ob (ob (takeN es cells) λr=>ob (rowsOf es 0 (lX es cells)) λc=>some (r::c)) _=none;cases ht:takeN es cells with
 | none=>rfl
 | some r=>
  obtain⟨d,e⟩:=lg _ _ _ ht;rw [K4,lZ];cases hd:cells.drop es with
  | nil=>have:=List.drop_eq_nil_iff.1 hd;omega
  | cons x xs=>rfl
@[simp] theorem ahA {β:Type}(len:Nat)(k:Nat->Option β):idx len (.int .i64 0) k=if 0<len then k 0 else none:=by show bi (Nat.blt 0 len) (k 0) none=_;rw [TF]
noncomputable def MX (b:Option O6)(k:d9)(es:List (d9×d9)):Option O6:=match b with
 | some (.mapU _)=>pF k λ_=>some (.mapU es)
 | _=>some (.map es)
@[simp] theorem ahB (es:List (d9×d9))(k:d9)(a:List (d9×d9)):MX (some (.map es)) k a=some (.map a):=rfl
@[simp] theorem agf (es:List (d9×d9))(s:List UInt8)(a:List (d9×d9)):MX (some (.mapU es)) (.str s) a=some (.mapU a):=rfl
theorem TJ (m:Mem)(id:Nat)(k:d9)(es:List (d9×d9)):oh m id k es=ob (MX (m.get id) k es) λb=>some [⟨.undef,m.set id b⟩]:=by
 unfold oh MX;match m.get id with
 | some (.mapU _)=>cases k<;>rfl
 | some (.map _) | some .void | some .dead | some (.cells ..) | some (.iter ..) | some (.tail _) | some (.loop ..) | some .deferred | some (.siter ..) | some (.buf ..) | none=>rfl
noncomputable def msB (b:Option O6)(f:FJ)(n:Nat)(k x:d9):Option O6:=
 Ci b λes=>ob (P7 f n k es) λr=>Option.rec (MX b k (es ++ [(k,x)])) (λp=>ob es[p.1]? λe=>bi (Nat.beq e.1.cells.length n) (MX b k (bY es k x p.1)) none) r
theorem sG (f:FJ)(n:Nat)(mp k x:OF)(cf:D7)(ls:List d9)(env:T d9)(m:Mem):G9 f n mp k x cf ls env m=tY (mp ls env) none λid=>bi (Nat.blt id m.lim) none (ob (msB (m.get id) f n (k ls env) (x ls env)) λb=>some [⟨.undef,m.set id b⟩]):=by
 show tY (mp ls env) none (λid=>bi (Nat.blt id m.lim) none _)=_;congr 1;funext id;congr 1;unfold msB;have d:=TJ m id;have c:∀a,(ob (P7 f n (k ls env) a) λr=>(Option.rec (oh m id (k ls env) (V8 a [(k ls env,x ls env)])) (λp=>ob (pE p.1 a) λe=>bi (Nat.beq (len' e.1.cells) n) (oh m id (k ls env) (bY a (k ls env) (x ls env) p.1)) none) r:eu)) =
   ob (ob (P7 f n (k ls env) a) λr=>Option.rec (MX (m.get id) (k ls env) (a ++ [(k ls env,x ls env)])) (λp=>ob a[p.1]? λe=>bi (Nat.beq e.1.cells.length n) (MX (m.get id) (k ls env) (bY a (k ls env) (x ls env) p.1)) none) r) λb=>some [⟨.undef,m.set id b⟩]:=λa=>by
  cases P7 f n (k ls env) a with
  | none=>rfl
  | some r=>
   cases r with
   | none=>simp only [K4];rw [d,Q9]
   | some p=>
    simp only [K4];rw [jk];cases a[p.1]? with
    | none=>rfl
    | some e=>
     simp only [K4,I5];cases Nat.beq e.1.cells.length n with
     | true=>simp only [R4];rw [d]
     | false=>rfl
 match hb:m.get id with
 | some (.map a)=>rw [hb] at c;exact c a
 | some (.mapU a)=>rw [hb] at c;exact c a
 | some .void | some .dead | some (.cells ..) | some (.iter ..) | some (.tail _) | some (.loop ..) | some .deferred | some (.siter ..) | some (.buf ..) | none=>rfl
@[congr] theorem al3 {β:Type}{v v':d9}{z:Option β}{k:Nat->Option β}(h:v=v'):tY v z k=tY v' z k:=by rw [h]
theorem Ro (es:List (d9×d9))(f:FJ)(n:Nat)(k x:d9):msB (some (.map es)) f n k x=ob (P7 f n k es) λr=>Option.rec (some (.map (es ++ [(k,x)]))) (λp=>ob es[p.1]? λe=>bi (Nat.beq e.1.cells.length n) (some (.map (bY es k x p.1))) none) r:=rfl
theorem JQ (f:FJ)(n:Nat)(k:d9):P7 f n k []=bi (Nat.beq (len' k.cells) n) (ob (f k k) λ_=>some none) none:=rfl
theorem Gn (f:FJ)(n:Nat)(k:d9)(e:d9×d9)(es:List (d9×d9)):P7 f n k (e::es)=bi (Nat.beq (len' k.cells) n) (findKey f k (e::es) 0) none:=rfl
@[simp] theorem adL (f:OF)(b:List (Option Nat))(a d:S9)(cf:D7)(fu:Nat)(env:T d9)(m:Mem)(k:List Mk):Jg f b a d cf fu none env m k=OQ cf (f [] env) b a d env (m.new .deferred) (.c m.nx::k):=id rfl
@[simp] theorem agh (cf:D7)(f:FuncId)(a b:List d9)(params:List (Option Nat))(assign body:S9)(env:T d9)(m:Mem)(k:List Mk):OQ cf (.func (.func f) a b) params assign body env m k =
  bnd (cf (.func f) (a++(.func (.yield m.nx) [] []::b)) (m.new (.loop .ready none env params assign body))) λr=>bg r.v (λ_=>none) <|
   pU (r.m.get m.nx) λst pend _ _ _ _=>match st with
    | .busy=>none
    | _=>match pend with
     | none=>ou .normal env (r.m.set m.nx .dead) k
     | some x=>ou x env (r.m.set m.nx .dead) k:=by
 show bnd (cf (.func f) (V8 a (V8 [.func (.yield m.nx) [] []] b)) _) _=_;rw [Q9,Q9];rfl
@[simp] theorem ahC {β:Type}(c:LoopState)(a:Option bI)(env:T d9)(ps:List (Option Nat))(b bd:S9)(f:LoopState->Option bI->T d9->List (Option Nat)->S9->S9->Option β):pU (some (.loop c a env ps b bd)) f=f c a env ps b bd:=id rfl
theorem ZR (a:jV)(rs:List pz)(env:T d9)(m:Mem)(id:Nat)(h:m.get id=some .deferred):leave a rs ⟨.ret,env,m,[.c id],none⟩=ob (results rs env (m.set id .dead)) λl=>some [⟨result l,m.set id .dead⟩]:=by show Vm (m.get id) _=_;rw [h];rfl
end Go.AM
namespace Go.AM
open Go
theorem iq {β:Type}{m:Mem}{id:Nat}(c:m.lim<=id)(off:Nat)(a:List d9)(k:Mem->Option β):storeAt m id off a k=bi (K5 a) (ob (uW (m.get id) off a) λb=>k (m.set id b)) none:=by
 cases h1:K5 a with
 | true=>rw [jB c h1];rfl
 | false=>unfold storeAt;rw [h1];cases Nat.blt id m.lim<;>rfl
def JR (P:Program):List Field->Nat->Nat->Bool
 | [],o,n=>Nat.beq o n
 | f::fs,o,n=>Nat.beq f.offset o&&JR P fs (o+P.cellsOf f.type) n
section
variable {P:Program}{G:Mem}{hp:Array Obj}
theorem Mem.uY (m:Mem)(i:Nat):m.shut.get i=m.get i:=rfl
theorem RM.push {ι:J5}{m:Mem}(h:RM P G ι m hp)(s:m.lim=m.nx){b:O6}{l:Loc}(p:bV b=false)(hs:R8 b=true->l.spot=none)
  (hb:dF P (ι.upd m.nx l) ((m.new b).nm (ι.upd m.nx l)) hp l b):RM P G (ι.upd m.nx l) (m.new b).shut hp:=by
 have c:∀i,(m.new b).shut.get i=if i=m.nx then some b else m.get i:=λi=>Mem.J8 h.ok b i
 have o:∀i x,m.get i=some x->i≠m.nx:=λi x a e=>by have:=Mem.H9 h.ok a;omega
 have d:∀j,m.has j->ι.upd m.nx l j=ι j:=λj ⟨x,a,_⟩=>ι.upd_ne l (o j x a);have g:∀i,m.has i->(m.new b).shut.has i:=λi ⟨x,a,p⟩=>⟨x,by rw [c,if_neg (o i x a)];exact a,p⟩;have r:G.nx<=m.nx:=aP h.glim h.limn;refine⟨h.ok.push b,λi x a=>?_,λi x f a _=>?_,?_,J2 _,h.gle,λi f=>?_,λi f=>g i (h.ghas i f),λi f=>?_,λi x a k=>?_,h.gsz⟩;rw [c] at a;split at a;rename_i e;subst e;cases a;rw [ι.V4];exact hb;rename_i e;rw [ι.upd_ne l e];exact (h.blk i x a).mono (n:=m.nm ι) d (Mem.V7 g d) λ_=>rfl;have q:=Mem.H9 (m:=(m.new b).shut) (h.ok.push b) a;have f:(m.new b).shut.nx<=i:=f;omega;show G.nx<=m.nx+1;omega;rw [c,if_neg (by omega)];exact h.base i f;rw [d i (h.ghas i f)];exact h.glob i f;rw [c] at a;split at a;rename_i e;subst e;cases a;rw [ι.V4];exact hs k;rename_i e;rw [ι.upd_ne l e];exact h.spot i x a k
structure Lifts (P:Program)(G:Mem)(hp:Array Obj)(ι:J5)(m:Mem)(ι':J5)(m':Mem):Prop where
 rm:RM P G ι' m' hp
 lim:m'.lim=m'.nx
 get:∀i b,m.get i=some b->m'.get i=some b
 ext:∀i,m.has i->ι' i=ι i
theorem Lifts.refl {ι:J5}{m:Mem}(h:RM P G ι m hp)(a:m.lim=m.nx):Lifts P G hp ι m ι m:=⟨h,a,λ_ _ h=>h,λ_ _=>rfl⟩
theorem Lifts.has {ι ι':J5}{m m':Mem}(h:Lifts P G hp ι m ι' m')(i:Nat)(c:m.has i):m'.has i:=by obtain⟨x,a,b⟩:=c;exact⟨x,h.get i x a,b⟩
theorem Lifts.trans {a c d:J5}{m1 f m3:Mem}(h:Lifts P G hp a m1 c f)(k:Lifts P G hp c f d m3):Lifts P G hp a m1 d m3:=
 ⟨k.rm,k.lim,λi b g=>k.get i b (h.get i b g),λi e=>(k.ext i (h.has i e)).trans (h.ext i e)⟩
theorem Lifts.l9 {ι ι':J5}{m m':Mem}(h:Lifts P G hp ι m ι' m'){vs:List d9}(a:aM (m.nm ι) vs):o9 ι' vs=o9 ι vs:=eP (n:=m.nm ι) h.ext vs a
theorem Lifts.lt {ι ι':J5}{m m':Mem}(h:Lifts P G hp ι m ι' m'){vs:List d9}(a:aM (m.nm ι) vs):aM (m'.nm ι') vs:=dD (Mem.V7 h.has h.ext) vs a
theorem Lifts.push {ι:J5}{m:Mem}(h:RM P G ι m hp)(d:m.lim=m.nx){b:O6}{l:Loc}(f:bV b=false)(hs:R8 b=true->l.spot=none)
  (hb:dF P (ι.upd m.nx l) ((m.new b).nm (ι.upd m.nx l)) hp l b):Lifts P G hp ι m (ι.upd m.nx l) (m.new b).shut:=by
 have c:∀i x,m.get i=some x->i≠m.nx:=λi x a e=>by have:=Mem.H9 h.ok a;omega
 exact⟨h.push d f hs hb,rfl,λi x a=>by rw [Mem.uY,Mem.J8 h.ok,if_neg (c i x a)];exact a,λj ⟨x,a,_⟩=>ι.upd_ne l (c j x a)⟩
def Gets (P:Program)(G:Mem)(hp:Array Obj)(ι:J5)(m:Mem)(cs:List Value)(S:Mem->List d9->Prop):Prop:=
 ∃ι' m' vs,Lifts P G hp ι m ι' m'∧o9 ι' vs=cs∧aM (m'.nm ι') vs∧S m' vs
variable {H:Type}{enc:TypeId×Value->H}{w:World}{held:Bool}
end
end Go.AM
