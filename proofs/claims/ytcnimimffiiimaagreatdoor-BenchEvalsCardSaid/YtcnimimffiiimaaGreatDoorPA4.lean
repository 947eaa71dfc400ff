/- A part of an evaluator for the model, proved sound: what it answers holds of the model; it speaks of every program, no condition. -/
import Derived.Test.YtcnimimffiiimaaGreatDoorPA3
import Derived.RecoverIn
import Derived.Deep.Slices
set_option linter.all false
namespace Go.AM
open Go
theorem oP {α:Type}{f:α->Option Nat}:∀{l:List α},(l.filterMap f).Nodup->∀{i j:Nat} {x y:α} {t:Nat},l[i]?=some x->l[j]?=some y->f x=some t->f y=some t->i=j
 | [],_,i,j,x,y,t,hi,_,_,_=>by simp at hi
 | z::l,h,i,j,x,y,t,hi,hj,hx,hy=>by
  have hmem:∀{k:Nat} {u:α},l[k]?=some u->f u=some t->t∈l.filterMap f:=λhk hu=>List.mem_filterMap.2 ⟨_,U9 hk,hu⟩;cases hz:f z with
  | none=>
   rw [List.filterMap_cons_none hz] at h;cases i with
   | zero=>simp at hi;subst hi;rw [hz] at hx;cases hx
   | succ i=>
    cases j with
    | zero=>simp at hj;subst hj;rw [hz] at hy;cases hy
    | succ j=>exact congrArg Nat.succ (oP h (i:=i) (j:=j) (by simpa using hi) (by simpa using hj) hx hy)
  | some u=>
   rw [List.filterMap_cons_some hz] at h;obtain⟨h1,h2⟩:=aew.1 h;cases i with
   | zero=>
    simp at hi;subst hi;rw [hz] at hx;cases hx;cases j with
    | zero=>rfl
    | succ j=>exact absurd (hmem (by simpa using hj) hy) h1
   | succ i=>
    cases j with
    | zero=>simp at hj;subst hj;rw [hz] at hy;cases hy;exact absurd (hmem (by simpa using hi) hx) h1
    | succ j=>exact congrArg Nat.succ (oP h2 (i:=i) (j:=j) (by simpa using hi) (by simpa using hj) hx hy)
section
variable {P:Program}{G:Mem}{slots:List Nat}{nt:Nat}{cf:D7}{ops:Array Oper}
theorem Ip {α:Type}(l:List α)(p k:Nat)(hp:p<=l.length)(a:k<p):(l.take p).reverse[k]?=l[p-1-k]?:=by rw [List.getElem?_reverse (by simp;omega),ai1,aeC,if_pos (by omega)];congr 1;omega
theorem XF {b:List Nat}{X:Nat->Nat×Inst}{a:List Inst}(c:a.length=b.length)(h:∀p x,a[p]?=some x->(X p).2=x):∀p,p<=b.length->
  xY b X p=(((((b.zip a).take p).filter λy=>L9 y.2).map (·.1)).reverse):=by
 intro p;induction p with
 | zero=>intro _;rfl
 | succ p ih=>
  intro i;have d:p<(b.zip a).length:=by rw [List.length_zip];omega
  have e:(b.zip a)[p]=(b[p]'(by omega),a[p]'(by omega)):=List.getElem_zip ..;rw [adC d,List.filter_append,ac5,List.reverse_append,← ih (by omega)];have f:(X p).2=a[p]'(by omega):=h p _ (gy (by omega));have g:b.getD p 0=b[p]'(by omega):=by rw [X6,gy (by omega)];rfl
  simp only [xY,e,f,g];cases he:L9 (a[p]'(by omega))<;>simp [he]
theorem CZ {α:Type}(f:α->Bool)(l:List α){p q:Nat}(d:p<q)(hp:p<l.length)(c:f l[p]=true):((l.take p).filter f).length<((l.take q).filter f).length:=by
 have b:l.take (p+1)=(l.take q).take (p+1):=by rw [List.take_take];congr 1;omega
 have a:((l.take (p+1)).filter f).length<=((l.take q).filter f).length:=by rw [b];exact ((List.take_sublist _ _).filter f).length_le
 rw [adC hp,List.filter_append] at a;simp [c] at a;omega
theorem Ui {n:Nat}{l:List (Nat×Inst)}(E:xu P slots ops=some (.dreg n l))(a4:∀(i:Nat)(o:Oper)(t:Tmp),ops[i]?=some o->o.dst=some t->t<nt){b:Nat}{S:Nat->DS}(a5:(S 0).ls=[])(a3:(S 0).gs=[(S 0).m])(ad:∀p x,l[p]?=some x->KJ cf b x (S p) (S (p+1))):
  ∃ord X,Fixed P slots nt cf b ops ord X S∧l.length=ord.length∧∀p x,l[p]?=some x->X p=x:=by
 unfold xu at E;split at E;cases E;rename_i d a1;split at E;rename_i W;cases E;generalize hord:canon (Ca ops) (masks ops.toList) ops.size=ord at *;simp only [Tv,gI] at W;obtain⟨⟨⟨⟨c1,c2⟩,c3⟩,c4⟩,c5⟩:=W;obtain⟨V,a0⟩:=QZ _ _ _ a1;obtain⟨a8,C⟩:=KN (masks ops.toList) (ord.zip d) [] 0;have I:(ord.zip d).length=ord.length:=by rw [List.length_zip];omega
 generalize hl:numbered (masks ops.toList) (ord.zip d) [] 0=l at *;have M:∀p i x,ord[p]?=some i->d[p]?=some x->(ord.zip d)[p]?=some (i,x):=λp i x g u=>by rw [afa];exact⟨g,u⟩
 have D:∀p i,ord[p]?=some i->∃x o,d[p]?=some x∧ops[i]?=some o∧nT P slots (eD ops ord p) ops i=some (x,o.dst)∧(l.getD p default).2=x∧l[p]?=some (l.getD p default):=by intro p i f;obtain⟨x,o,g,u,G⟩:=a0 p i f;obtain⟨c,v,_⟩:=C p i x (M p i x f g);refine⟨x,o,g,u,by simpa using G,by rw [X6,v];rfl,by rw [X6,v];rfl⟩
 have a6:∀i∈ord,i<ops.size:=λi R=>Eq.mp Xb (aap.1 c2 i R);have w:∀p i x,ord[p]?=some i->d[p]?=some x->rX (masks ops.toList) ops i x ((ord.zip d).take p).reverse=true:=λp i x g u=>by have:=KI c5 p (i,x) (M p i x g u);simpa using this
 have K:∀p q j,q<p->p<=ord.length->ord[q]?=some j->∃x,(j,x)∈((ord.zip d).take p).reverse∧d[q]?=some x:=λp q j A f T=>by obtain⟨x,_,g,_⟩:=D q j T;refine⟨x,aiO.2 ?_,g⟩;refine U9 (i:=q) ?_;rw [aeC,if_pos A];exact M q j x T g
 have L:∀p i,p<ord.length->ord[p]?=some i->∀y,OG (masks ops.toList) i ((ord.zip d).take p).reverse y=true->KP ops ord (λp=>l.getD p default) p i y:=by
  intro p i f R y F;cases y with
  | con c=>trivial
  | loc k=>
   simp only [OG] at F;split at F;rename_i z N;have hk:k<p:=by have:=(gq.1 N).1;simp at this;omega
   rw [Ip _ _ _ (by omega) hk] at N;obtain⟨g,_⟩:=afa.1 N;exact⟨z.1,hk,g,dO ops i z.1 F⟩;cases F
  | slot j=>intro q A e;obtain⟨x,hm,hx⟩:=K p q (ord[q]'(by omega)) A (by omega) (gy (by omega));obtain⟨x',o',g,_,_,u,_⟩:=D q (ord[q]'(by omega)) (gy (by omega));rw [hx] at g;cases g;have:=aap.1 F _ hm;rw [u] at e;simp [e] at this
 refine⟨ord,λp=>l.getD p default,⟨wB c1,λi R=>?_,a6,λp i f=>?_,λp f=>?_,λp i f Q q j A T=>?_,λp i o f B e he hb=>?_,λi j oi oj t R T g u=>?_,λi o t B ht q oq A a7 ac=>?_,λp i f y F=>?_,
  λp i y wt f hg=>?_,λp i o f B=>?_,λp q o o' aa A B H=>?_,a4,a3,a5⟩,by rw [a8,I],λp x h=>by simp [X6,h]⟩
 have:=aap.1 c3 i (abT.2 R);simpa using this;obtain⟨x,o,g,u,G,v,_⟩:=D p i f;obtain⟨o',J,Z,O,U,g5⟩:=jL G;rw [u] at J;cases J;exact⟨o,u,by show (l.getD p default).2.op=_;rw [v];exact O,by show (l.getD p default).2.dst=_;rw [v];exact U,by show lN _ _ _ (l.getD p default).2.guard;rw [v];exact g5⟩;obtain⟨x,o,_,_,_,_,h5⟩:=D p (ord[p]) (gy f);exact ad p _ h5;obtain⟨x,o,g,u,G,v,_⟩:=D p i f;have Q:L9 (l.getD p default).2=true:=Q;rw [v] at Q;have s:=w p i x f g;simp only [rX,gI] at s;have s:=s.1.1.1;unfold L9 at Q;split at Q;rename_i eo a2;rw [a2] at s;obtain⟨x',hm,_⟩:=K p q j A (by have:=(gq.1 f).1;omega) T;exact dO ops i j (aap.1 s _ hm);cases Q;obtain⟨x,o',g,u,G,v,_⟩:=D p i f;have s:=w p i x f g;simp only [rX,gI] at s;have s:=s.1.1.2;rw [B] at s;simp only [gI] at s;have:=aap.1 s.1 e (by simpa using he);rw [hb] at this;simp only [agh,aaO] at this;obtain⟨y,F,ae⟩:=List.any_eq_true.1 this;obtain⟨q,A⟩:=aao (aiO.1 F);rw [aeC] at A;split at A;rename_i ab;obtain⟨J,_⟩:=afa.1 A;exact⟨q,ab,by rw [J];simpa using ae⟩;cases A;exact oP (wB c4) (by simpa using R) (by simpa using T) g u;obtain⟨p,f⟩:=aao (show i∈ord from by have:=aap.1 c3 i (abT.2 (q8.1 B).1);simpa using this);obtain⟨x,o',g,u,G,v,_⟩:=D p i f;have s:=w p i x f g;simp only [rX,gI] at s;have s:=s.1.1.2;rw [B] at s;simp only [gI] at s;have:=aap.1 (aap.1 s.2 t ht) q (abT.2 (q8.1 A).1);rw [A] at this;simp only [ac,bne_self_eq_false,agf,aeE,beq_iff_eq] at this;rcases this with (h | h) | h;exact absurd h a7;exact .inl (dO ops i q h);exact .inr (dO ops q i h);obtain⟨x,o',g,u,G,v,_⟩:=D p i f;have s:=w p i x f g;simp only [rX,gI] at s;have F:y∈BM (l.getD p default).2.op:=F;rw [v] at F;exact L p i (gq.1 f).1 f y (aap.1 s.1.2 y F);obtain⟨x,o',g,u,G,v,_⟩:=D p i f;have s:=w p i x f g;simp only [rX,gI] at s
 have hg:(l.getD p default).2.guard=some (y,wt):=hg;rw [v] at hg;have s:=s.2;rw [hg] at s;exact L p i (gq.1 f).1 f y s;obtain⟨x,o',g,u,G,v,h5⟩:=D p i f;obtain⟨c,J,Z,_⟩:=C p i x (M p i x f g);have B:(l.getD p default).2.op=.r o:=B;rw [v] at B;have s:(l.getD p default).1=c:=by rw [X6,J];rfl
 show (l.getD p default).1=_;rw [s,Z (by simp [isR,B]),agq,XF V (λp x Y=>?_) p (aeQ (gq.1 f).1)];have a9:p<ord.length:=by have:=(gq.1 Y).1;omega
 obtain⟨x',_,O,_,_,U,_⟩:=D p (ord[p]) (gy a9);rw [Y] at O;cases O;exact U;have f:p<ord.length:=by omega
 obtain⟨x,o1,g,u,G,v,h5⟩:=D p (ord[p]) (gy f);obtain⟨y,o2,k1,k2,k3,k4,k5⟩:=D q (ord[q]) (gy A);obtain⟨c,J,_,Z⟩:=C p _ x (M p _ x (gy f) g);obtain⟨c',O,_,U⟩:=C q _ y (M q _ y (gy A) k1);have B:(l.getD p default).2.op=.a o:=B;have H:(l.getD q default).2.op=.a o':=H;rw [v] at B;rw [k4] at H;show (l.getD p default).1<(l.getD q default).1;rw [show (l.getD p default).1=c from by rw [X6,J];rfl,show (l.getD q default).1=c' from by rw [X6,O];rfl,Z (by simp [isR,B]),U (by simp [isR,H])];have af:(ord.zip d)[p]'(by rw [I];exact f)=(ord[p],x):=by have:=M p _ x (gy f) g;rw [gy (by rw [I];exact f)] at this;exact Xl this
 have:=CZ (λy:Nat×Inst=>isA y.2) (ord.zip d) aa (by rw [I];exact f) (by rw [af];simp [isA,B]);omega;cases E
def qW (n:Nat)(listed:Array Bool):Nat:=((List.range n).filter λi=>!listed.getD i false).length
theorem zx {listed:Array Bool}{n i:Nat}(k:listed.size=n)(g:i<n)(b:listed.getD i false=false):qW n (listed.setIfInBounds i true)+1=qW n listed:=by
 unfold qW;have c:∀l:List Nat,l.Nodup->(l.filter λj=>!(listed.setIfInBounds i true).getD j false).length+(if i∈l then 1 else 0)=(l.filter λj=>!listed.getD j false).length:=by
  intro l;induction l with
  | nil=>intro _;simp
  | cons x l ih=>
   intro h;obtain⟨d,f⟩:=aew.1 h;have:=ih f;by_cases hx:x=i;subst hx;rw [if_neg d] at this;rw [if_pos (by simp),af6 (by rw [U4 _ _ _ (by omega),if_pos rfl];simp),af7 (by rw [b];rfl),Y3];omega;have e:(listed.setIfInBounds i true).getD x false=listed.getD x false:=by rw [U4 _ _ _ (by omega),if_neg hx]
   have a:(i∈x::l)↔i∈l:=X4.trans ⟨λh=>h.resolve_left (λe=>hx e.symm),.inr⟩;simp only [a];cases hl:listed.getD x false with
   | true=>rw [af6 (by rw [e,hl];simp),af6 (by rw [hl];simp)];exact this
   | false=>rw [af7 (by rw [e,hl];rfl),af7 (by rw [hl];rfl),Y3,Y3];omega
 have:=c (List.range n) List.nodup_range;rw [if_pos (abT.2 g)] at this;exact this
theorem Uj {b:Nat}{a:List Nat}{X:Nat->Nat×Inst}{S:Nat->DS}{listed:Array Bool}(F:Fixed P slots nt cf b ops a X S)(c:∀p,p<a.length->Lp a listed p=true):∀p,p<=a.length->yc a X S listed p=(S p).env:=by
 intro p;induction p with
 | zero=>intro _;rfl
 | succ p ih=>intro e;obtain⟨_,d⟩:=F.ls (p:=p) (by omega);rw [d,← ih (by omega)];show bD (X p).2.dst (vm a S listed p) _=_;simp [vm,c p (by omega)]
def ND (P:Program)(G:Mem)(slots:List Nat)(nt:Nat)(cf:D7)(r:Option Nat):Prop:=
 ∀(ops:Array Oper) (n:Nat) (l:List (Nat×Inst)),xu P slots ops=some (.dreg n l)->(∀(i:Nat) (o:Oper) (t:Tmp),ops[i]?=some o->o.dst=some t->t<nt)->
  ∀(Q:Exit->Act->World->Prop) (env:T d9) (m:Mem) (ι:H6) (w:World) (a:Act) (outs:List EM),
  RM P G ι m w.heap->Q6 ι (m.nm ι) slots env a.tmps->nt<=a.tmps.size->rU l cf m.nx [] env (reserve n m) [reserve n m]=some outs->
  (∀e∈outs,e.px=none->e.mks=[]->∀ι' w' a',Step P G ι m w ι' e.m w'->Q6 ι' (e.m.nm ι') slots e.env a'.tmps->a'.defers=a.defers->a'.tmps.size=a.tmps.size->Q .normal a' w')->
  (∀e∈outs,∀y,e.px=some y->e.mks=[]->∀ι' w' a',Step P G ι m w ι' e.m w'->y.lt (e.m.nm ι')->Q6 ι' (e.m.nm ι') slots e.env a'.tmps->a'.defers=a.defers->a'.tmps.size=a.tmps.size->Q (.panic [{v:=l7 ι' y,recovered:=false}]) a' w')->
  wpAnyIn (FR r) 0 P .any ops Q ops.size (Array.replicate ops.size false) a {w with drawn:=w.drawn+1}
theorem Ak (ai:lI P G cf)(slots:List Nat)(nt:Nat)(r:Option Nat):ND P G slots nt cf r:=by
 intro ops n l b7 bb Q b4 m ι w a b3 hm b8 a7 hv hQ b6;obtain⟨S,a0,aw⟩:=NA (cf:=cf) (b:=m.nx) l ⟨[],b4,reserve n m,[reserve n m]⟩ b3 hv;have be:∀p x,l[p]?=some x->KJ cf m.nx x (S p) (S (p+1)):=by rcases aw with⟨h,_⟩ | ⟨N,Dd,y,m',es,h,_⟩;exact λp x g=>.inl (h p x g);intro p x g;rcases h.step p x g with⟨_,h⟩ | ⟨_,_,h,_⟩;exact .inl h;exact .inr h
 obtain⟨c,X,F,b0,ah⟩:=Ui (cf:=cf) (b:=m.nx) (S:=S) b7 bb (by rw [a0]) (by rw [a0]) be;have I:∀p,p<c.length->∃x,l[p]?=some x∧X p=x:=λp g=>⟨l[p]'(by omega),gy (by omega),ah p _ (gy (by omega))⟩;have hb:m.lim<=m.nx:=hm.limn;have U:Q6 ι (m.nm ι) slots (S 0).env a.tmps:=by rw [a0];exact b8
 have af:Step P G ι m w ι (reserve n m) {w with drawn:=w.drawn+1}:=(Step.drew hm _).trans (xX n (Step.drew hm (w.drawn+1)).rm);have v:∀i,(Array.replicate ops.size false).getD i false=false:=λi=>by rw [Hl,abH];split<;>rfl
 have K:∀p,Lp c (Array.replicate ops.size false) p=false:=λp=>by unfold Lp;split;exact v _;rfl
 rcases aw with⟨hlv,hout⟩ | ⟨N,Dd,y,m',es,hPan,hout⟩;have al:∀p,p<c.length->DStep cf m.nx (X p) (S p) (S (p+1)):=λp g=>by obtain⟨x,R,rfl⟩:=I p g;exact hlv p _ R
 have a9:∀(u:Nat) (listed:Array Bool) (Y:Act) (w':World) (M:H6) (q:Nat),jw P G m.nx ops c X S ι m w a listed Y w' M q->qW ops.size listed=u->
   wpAnyIn (FR r) 0 P .any ops Q u listed Y w':=by
  intro u;induction u with
  | zero=>
   intro listed Y w' M q D f;have a1:∀i,i<ops.size->listed.getD i false=true:=λi V=>by
    cases hl:listed.getD i false with
    | true=>rfl
    | false=>have:i∈(List.range ops.size).filter λi=>!listed.getD i false:=aex.2 ⟨abT.2 V,by rw [hl];rfl⟩;rw [aax.1 f] at this;cases this
   have W:∀p,p<c.length->Lp c listed p=true:=λp g=>by rw [iJ (gy g)];exact a1 _ (F.lt _ (aaA g))
   refine⟨?_,?_⟩;unfold Region.ready;refine agc.2 λi V=>?_;have V:=abT.1 V;have T:listed.getD i true=true:=by have:=a1 i V;rw [Hl,Z6 (by rw [D.len];exact V)] at this ⊢;exact this
   simp [T];have hq:=D.hq;have ae:=F.lay_all (q:=q) (L:=Lp c listed) (c.length-q) (by omega) λk hk=>⟨W _ (by omega),by
    cases he:L9 (X (q+k)).2 with
    | false=>rfl
    | true=>have:=D.high (q+k) (by omega) he;rw [W _ (by omega)] at this;cases this⟩
   rw [show q+(c.length-q)=c.length from by omega] at ae;have ac:=D.lay F hb (c.length-q) (by omega);have s:=D.st F hb U a7 (c.length-q) (by omega) c.length (by omega);rw [ae] at ac s;have ad:=s.env;rw [Uj F W c.length (lM _)] at ad;refine hQ ⟨(S c.length).env,(S c.length).m,none,[]⟩ (by rw [hout,← b0];exact aA.2 rfl) rfl rfl M w' Y ac (ad.OY (by rw [jg,D.sz]) λt=>?_) D.defs D.sz;by_cases hw:∃(i:Nat) (o:Oper),ops[i]?=some o∧o.dst=some t;obtain⟨i,o,C,ht⟩:=hw;obtain⟨p,g⟩:=aao (F.all i (q8.1 C).1);have H:=(gq.1 g).1;rw [D.tw p i o t g (a1 i (q8.1 C).1) C ht,CY F a7 g C ht c.length H];simp [vm,W p H];rw [D.tn t λi o _ C ht=>hw ⟨i,o,C,ht⟩,yg c.length λr i o _ _ C ht=>hw ⟨i,o,C,ht⟩]
  | succ u ih=>
   intro listed Y w' M q D f;refine⟨λa6=>?_,λi V=>?_⟩
   ·
    exfalso;have aj:∃p,p<c.length∧Lp c listed p=false:=by have:((List.range ops.size).filter λi=>!listed.getD i false)≠[]:=λe=>(by unfold qW at f;rw [e] at f;cases f);obtain⟨i,V⟩:=aeZ _ this;obtain⟨T,O⟩:=aex.1 V;obtain⟨p,g⟩:=aao (F.all i (abT.1 T));exact⟨p,(gq.1 g).1,by rw [iJ g];simpa using O⟩
    have a5:∀N,(∃p,p<N∧p<c.length∧Lp c listed p=false)->∃p,p<c.length∧Lp c listed p=false∧∀q,q<p->Lp c listed q=true:=by
     intro N;induction N with
     | zero=>rintro⟨p,h,_⟩;omega
     | succ N ihN=>
      rintro⟨p,T,O,h3⟩;by_cases hx:∃p,p<N∧p<c.length∧Lp c listed p=false;exact ihN hx;refine⟨p,O,h3,λq hq=>?_⟩;cases hl:Lp c listed q with
      | true=>rfl
      | false=>exact absurd ⟨q,by omega,by omega,hl⟩ hx
    obtain⟨p0,am,an⟩:=aj;obtain⟨p,T,O,h3⟩:=a5 (p0+1) ⟨p0,by omega,am,an⟩;have g:=gy T;have B:c[p]∈Region.ready .any ops listed:=by obtain⟨o,C,_⟩:=F.inst p _ g;refine mem_ready.2 ⟨?_,o,C,λe he A=>?_⟩;rw [iJ g] at O;have E:c[p]<listed.size:=(by rw [D.len];exact F.lt _ (aaA T));rw [Hl,Z6 E] at O ⊢;exact O;obtain⟨q',ao,ap⟩:=F.edges p _ o g C e he A;have:=h3 q' ao;rw [iJ ap] at this;exact this
    rw [a6] at B;cases B
   obtain⟨z,o,C,hr⟩:=mem_ready.1 V;have E:i<listed.size:=by rw [D.len];exact (q8.1 C).1
   have z:listed.getD i false=false:=by rw [Hl,Z6 E] at z ⊢;exact z
   refine jw.op ai F hb U a7 D C z hr (λp g=>al p (gq.1 g).1) λa2 w2 aa q2 D2=>?_;refine ih _ a2 w2 aa q2 D2 ?_;have:=zx D.len (by rw [← D.len];exact E) z;omega
 refine a9 _ _ a _ ι 0 ⟨aeN _,.inl rfl,λp g=>by omega,λp _ _=>K p,by rw [a0];exact af,(λd i ag h=>by rw [K] at h;cases h),(λd d' i i' ag ar _ h=>by rw [K] at h;cases h),
  (λd h=>by rw [K] at h;cases h),(λp g=>by omega),(λp i o t _ h=>by rw [v] at h;cases h),λt _=>rfl,rfl,rfl,(λi o h=>by rw [v] at h;cases h),by simp⟩ ?_
 unfold qW;rw [aeW.2 (λi _=>by rw [v];rfl),aga];obtain⟨xN,eoN,az,bc,b9⟩:=hPan.at_;have au:N<c.length:=by have:=(gq.1 az).1;omega
 obtain⟨iN,a8⟩:∃i,c[N]?=some i:=⟨_,gy au⟩;have ba:iN<ops.size:=F.lt _ (U9 a8);have av:=ah N xN az;have bf:(X N).2.op=.e eoN:=by rw [av];exact bc
 have b5:GZ (X N).2.guard (lY eoN) cf (S N).ls (S N).env (S N).m=some [⟨.ng y,m'⟩]:=by rw [av];exact b9
 have J:∀p i,c[p]?=some i->Dd p=true->p=N∨zu ops i iN:=by
  intro p;induction p using Nat.strongRecOn with
  | _ p ihp=>
   intro i g hd;have H:=(gq.1 g).1;obtain⟨x,R,aq⟩:=I p H;rcases hPan.step p x R with⟨h,_⟩ | ⟨hNp,_,_,hw⟩;rw [hd] at h;cases h;rcases hw with h | h | ⟨k,hk,q,hqp,hkq,hq⟩;exact .inl h;by_cases hpN':p=N;exact .inl hpN';obtain⟨eo,he⟩:=h;exact .inr (F.eff p i g (by rw [aq];simp [L9,he]) N iN (by omega) a8);have bd:KP ops c X p i (.loc k):=by rcases hk with hk | ⟨wt,hk⟩;exact F.WE p i g _ (by rw [aq];exact hk);exact F.opdg p i _ wt g (by rw [aq];exact hk)
   obtain⟨j,bh,ak,ay⟩:=bd;have e:p-1-k=q:=by omega
   rw [e] at ak;rcases ihp q hqp j ak hq with rfl | h;obtain rfl:=Xl (ak.symm.trans a8);exact .inr ay;exact .inr (ay.trans h)
 have a9:∀(u:Nat) (listed:Array Bool) (Y:Act) (w':World) (M:H6) (q:Nat),jw P G m.nx ops c X S ι m w a listed Y w' M q->listed.getD iN false=false->qW ops.size listed=u->
   wpAnyIn (FR r) 0 P .any ops Q u listed Y w':=by
  intro u;induction u with
  | zero=>intro listed Y w' M q D Z f;exfalso;have:iN∈(List.range ops.size).filter λi=>!listed.getD i false:=aex.2 ⟨abT.2 ba,by rw [Z];rfl⟩;rw [aax.1 f] at this;cases this
  | succ u ih=>
   intro listed Y w' M q D Z f;refine⟨λa6=>?_,λi V=>?_⟩
   ·
    exfalso;have aj:∃p,p<c.length∧Lp c listed p=false:=by have:((List.range ops.size).filter λi=>!listed.getD i false)≠[]:=λe=>(by unfold qW at f;rw [e] at f;cases f);obtain⟨i,V⟩:=aeZ _ this;obtain⟨T,O⟩:=aex.1 V;obtain⟨p,g⟩:=aao (F.all i (abT.1 T));exact⟨p,(gq.1 g).1,by rw [iJ g];simpa using O⟩
    have a5:∀N,(∃p,p<N∧p<c.length∧Lp c listed p=false)->∃p,p<c.length∧Lp c listed p=false∧∀q,q<p->Lp c listed q=true:=by
     intro N;induction N with
     | zero=>rintro⟨p,h,_⟩;omega
     | succ N ihN=>
      rintro⟨p,T,O,h3⟩;by_cases hx:∃p,p<N∧p<c.length∧Lp c listed p=false;exact ihN hx;refine⟨p,O,h3,λq hq=>?_⟩;cases hl:Lp c listed q with
      | true=>rfl
      | false=>exact absurd ⟨q,by omega,by omega,hl⟩ hx
    obtain⟨p0,am,an⟩:=aj;obtain⟨p,T,O,h3⟩:=a5 (p0+1) ⟨p0,by omega,am,an⟩;have g:=gy T;have B:c[p]∈Region.ready .any ops listed:=by obtain⟨o,C,_⟩:=F.inst p _ g;refine mem_ready.2 ⟨?_,o,C,λe he A=>?_⟩;rw [iJ g] at O;have E:c[p]<listed.size:=(by rw [D.len];exact F.lt _ (aaA T));rw [Hl,Z6 E] at O ⊢;exact O;obtain⟨q',ao,ap⟩:=F.edges p _ o g C e he A;have:=h3 q' ao;rw [iJ ap] at this;exact this
    rw [a6] at B;cases B
   obtain⟨z,o,C,hr⟩:=mem_ready.1 V;have E:i<listed.size:=by rw [D.len];exact (q8.1 C).1
   have z:listed.getD i false=false:=by rw [Hl,Z6 E] at z ⊢;exact z
   by_cases hiN':i=iN;subst hiN';have a3:∀p,N<p->Lp c listed p=true->Dd p=false:=λp g W=>by
    cases hd:Dd p with
    | false=>rfl
    | true=>exfalso;have H:=sV W;have b2:=gy H;rcases J p _ b2 hd with h | h;omega;rw [iJ b2] at W;have:=h.listed D.closed λo' ab e he A=>D.closed _ o' W ab e he A;rw [Z] at this;cases this
   refine jw.ng ai F hb U a7 D a8 C z hr bf b5 (λp g H W=>?_) λaa w2 ac b1 a4=>?_;obtain⟨x,R,rfl⟩:=I p H;exact hPan.na p _ g R (a3 p g W);have B:=hPan.envs (Lp c listed) a3;have bg:∀k,KT c X S listed N k=Bc (l.drop (N+1)) (λk=>(S (N+1+k+1)).ls.headD .undef) (λk=>Lp c listed (N+1+k)) (S N).env k:=by
    intro k;induction k with
    | zero=>rfl
    | succ k ihk=>
     rw [KT,Bc,aeJ,ihk];cases hlk:l[N+1+k]? with
     | some x=>rw [ah _ _ hlk];rfl
     | none=>
      have:Lp c listed (N+1+k)=false:=by
       cases W:Lp c listed (N+1+k) with
       | false=>rfl
       | true=>have T:=sV W;have O:=List.getElem?_eq_none_iff.1 hlk;omega
      rw [this,if_neg (by decide)]
   rw [bg,← b0] at a4;exact b6 ⟨_,m',some y,[]⟩ (by rw [hout,KM];exact aeX B) y rfl rfl aa w2 Y ac b1 a4 D.defs D.sz;have ax:∀j,zu ops i j->listed.getD j false=true:=λj hj=>hj.listed D.closed λo' ab e he A=>by rw [C] at ab;cases ab;exact hr e he A
   refine jw.op ai F hb U a7 D C z hr (λp g=>?_) λa2 w2 aa q2 D2=>?_;have H:=(gq.1 g).1;obtain⟨x,R,rfl⟩:=I p H;rcases hPan.step p _ R with⟨_,h⟩ | ⟨hNp,hDd,_,_⟩;exact h;exfalso;rcases J p i g hDd with rfl | h;exact hiN' (Xl (g.symm.trans a8));have:=ax _ h;rw [Z] at this;cases this;refine ih _ a2 w2 aa q2 D2 ?_ ?_;rw [U4 _ _ _ E,if_neg (af4 hiN')];exact Z;have:=zx D.len (by rw [← D.len];exact E) z;omega
 refine a9 _ _ a _ ι 0 ⟨aeN _,.inl rfl,λp g=>by omega,λp _ _=>K p,by rw [a0];exact af,(λd i ag h=>by rw [K] at h;cases h),(λd d' i i' ag ar _ h=>by rw [K] at h;cases h),
  (λd h=>by rw [K] at h;cases h),(λp g=>by omega),(λp i o t _ h=>by rw [v] at h;cases h),λt _=>rfl,rfl,rfl,(λi o h=>by rw [v] at h;cases h),by simp⟩ (v _) ?_
 unfold qW;rw [aeW.2 (λi _=>by rw [v];rfl),aga]
end
section
variable {F:Fence}{n:Nat}{P:Program}
theorem NG {o:Oper}{a:Act}{w:World}{K j:Act->World->Prop}{Q Q':Exit->Act->World->Prop}(g:∀a w,K a w->j a w)(h:∀c a w,Q (.panic c) a w->Q' (.panic c) a w)(f:LetsOut Q->LetsOut Q')
  (b:o.wpIn F n P a w K Q):o.wpIn F n P a w j Q':=by
 unfold Oper.wpIn at *;refine⟨b.1,?_⟩;have b:=b.2;generalize (o.semAt F.round a.eval).run P w=r at *;cases r with
 | ok x w'=>
  cases x<;>simp only [Oper.uponIn] at b ⊢ <;>
   first
    | exact g _ _ b
    | exact⟨b.1,ajy b.2 (λe i d=>by cases e<;>first | exact g _ _ d | exact h _ _ _ d | exact f d)⟩
    | exact⟨b.1,RowsIn.mono b.2 (λ_ _ d=>g _ _ d)⟩
    | exact⟨b.1,RoundIn.mono b.2 (λe i d=>by cases e<;>first | exact g _ _ d | exact h _ _ _ d | exact f d)⟩
 | halt x w'=>cases x<;>simp only [Oper.uponIn] at b ⊢ <;> first | exact b | exact h _ _ _ b
theorem least {p:Nat->Prop}(h:∃j,p j):∃j,p j∧∀q,q<j->¬ p q:=by
 obtain⟨j,c⟩:=h;induction j using Nat.strongRecOn with
 | _ j ih=>by_cases hx:∃q,q<j∧p q;obtain⟨q,a,b⟩:=hx;exact ih q a b;exact⟨j,c,λq e d=>hx ⟨q,e,d⟩⟩
theorem Da {ops:Array Oper}{listed:Array Bool}(b:jf ops listed)(hs:listed.size=ops.size){i:Nat}{o:Oper}(g:ops[i]?=some o)
  (k:∀e∈o.after,Region.binds .any e=true->listed.getD e.on false=true):jf ops (listed.setIfInBounds i true):=by
 have h:i<listed.size:=by rw [hs];exact (q8.1 g).1
 intro j l c a e f d;rw [U4 _ _ _ h] at c ⊢;by_cases hji:j=i;subst hji;rw [g] at a;cases a;rw [k e f d];split<;>rfl
 rw [if_neg hji] at c;rw [b j l c a e f d];split<;>rfl
theorem yj {A:Array Bool}{i:Nat}(a:i<A.size):A.getD i true=A.getD i false:=by rw [Hl,Hl,Z6 a];rfl
theorem KU {o:Oper}(h:o.guard=none)(y:Nat->Option Bool):Region.wanted o y=true:=by unfold Region.wanted;rw [h]
theorem ET {ops:Array Oper}{k:Nat}(T:k<=ops.size)(S:∀(i:Nat)(o:Oper),ops[i]?=some o->o.guard=none)
  (l:∀(i:Nat) (o:Oper),ops[i]?=some o->∀e∈o.after,Region.binds .any e=true->e.on<i)
  (r:∀i,k<=i->i<ops.size->∀j,j<k->zu ops i j) {Q Q1:Exit->Act->World->Prop} (R:∀c a w,Q1 (.panic c) a w->Q (.panic c) a w) (B:LetsOut Q1->LetsOut Q)
  (q:∀a w,Q1 .normal a w->∀listed:Array Bool,listed.size=ops.size->jf ops listed->(∀j,listed.getD j false=decide (j<k))->wpAnyIn F n P .any ops Q (ops.size-k) listed a w):
  ∀(fuel:Nat) (listed lp:Array Bool) (a:Act) (w:World),listed.size=ops.size->lp.size=k->(∀j,listed.getD j false=lp.getD j false)->jf ops listed->qW k lp=fuel->
   wpAnyIn F n P .any (ops.extract 0 k) Q1 fuel lp a w->wpAnyIn F n P .any ops Q (fuel+(ops.size-k)) listed a w:=by
 intro fuel;induction fuel with
 | zero=>
  intro listed lp a w A K d b u h;rw [Z8];refine q a w h.2 listed A b λj=>?_;rw [d j];by_cases hj:j<k;have:lp.getD j false=true:=by
   cases hx:lp.getD j false with
   | true=>rfl
   | false=>have:j∈(List.range k).filter λi=>!lp.getD i false:=aex.2 ⟨abT.2 hj,by rw [hx];rfl⟩;rw [aax.1 u] at this;cases this
  rw [this];simp [hj];rw [Hl,aeB (by omega)];simp [hj]
 | succ fuel ih=>
  intro listed lp a w A K d b u h;rw [show fuel+1+(ops.size-k)=(fuel+(ops.size-k))+1 from by omega];have s:∃j,j<k∧lp.getD j false=false:=by
   have:((List.range k).filter λi=>!lp.getD i false)≠[]:=λe=>by unfold qW at u;rw [e] at u;cases u
   obtain⟨i,D⟩:=aeZ _ this;obtain⟨p,N⟩:=aex.1 D;exact⟨i,abT.1 p,by simpa using N⟩
  refine⟨λx=>?_,λi D=>?_⟩;exfalso;obtain⟨j,⟨t,m⟩,I⟩:=least s;have f:=Z6 (xs:=ops) (i:=j) (by omega);have:j∈Region.ready .any ops listed:=mem_ready.2 ⟨by rw [yj (by omega),d,m],_,f,λe J C=>by
   have v:=l j _ f e J C;cases hx:listed.getD e.on false with
   | true=>rfl
   | false=>exact absurd ⟨by omega,by rw [← d];exact hx⟩ (I e.on v)⟩
  rw [x] at this;cases this;obtain⟨M,o,f,L⟩:=mem_ready.1 D;have G:i<ops.size:=(q8.1 f).1;have E:i<k:=by refine Nat.lt_of_not_le λH=>?_;obtain⟨j,t,m⟩:=s;have:=(r i H G j t).listed b (λU y=>by rw [f] at y;cases y;exact L);rw [d j,m] at this;cases this
  have z:(ops.extract 0 k)[i]?=some o:=by rw [Array.getElem?_extract,if_pos (by omega),Z8];exact f
  have g:listed.getD i false=false:=by rw [← yj (by omega)];exact M
  have p:=h.2 i (mem_ready.2 ⟨by rw [yj (by omega),← d];exact g,o,z,λe J C=>by rw [← d];exact L e J C⟩);unfold wpOpIn at p ⊢;rw [z] at p;rw [f];simp only [KU (S i o f),if_true] at p ⊢;refine NG (λa w O=>ih _ _ a w (by simpa using A) (by simpa using K) (λj=>?_) (Da b A f L) ?_ O) R B p;rw [U4 _ _ _ (by omega),U4 _ _ _ (by omega),d j];have:=zx (n:=k) (listed:=lp) K E (by rw [← d];exact g);omega
end
theorem zy {x:N9}(h:JV x=true)(ls:List d9)(env:T d9):D8 x ls env=D8 x [] env:=by cases x<;>first | rfl | cases h
theorem T.sW {α:Type}:∀(t:T α) (i j:Nat) {x y:α},t.get i=some x->t.get j=some y->i≠j->∀a b:α,(t.put i a).put j b=(t.put j b).put i a
 | .e,i,j,x,y,h,_,_,_,_=>by cases h
 | .nd l v r,i,j,x,y,hi,hj,hne,a,b=>by
  have hp:∀(l r:T α) (v:α) (k:Nat) (c:α),(T.nd l v r).put (k+1) c=(Nat.rec (.nd (l.put (Nat.div k 2) c) v r) (λ_ _=>.nd l v (r.put (Nat.div k 2) c)) (Nat.mod k 2):T α):=λ_ _ _ _ _=>rfl;have hg:∀(k:Nat),(T.nd l v r).get (k+1)=(Nat.rec (l.get (Nat.div k 2)) (λ_ _=>r.get (Nat.div k 2)) (Nat.mod k 2):Option α):=λ_=>rfl;have hm:∀k:Nat,Nat.mod k 2=0∨Nat.mod k 2=1:=λk=>by have:Nat.mod k 2<2:=agk _ (by omega);omega
  have h0:∀(l r:T α) (v c:α),(T.nd l v r).put 0 c=.nd l c r:=λ_ _ _ _=>rfl;have hd:∀k q:Nat,Nat.mod k 2=Nat.mod q 2->k≠q->Nat.div k 2≠Nat.div q 2:=λk q h1 h2=>by have e1:Nat.mod k 2=k%2:=rfl;have e2:Nat.mod q 2=q%2:=rfl;have e3:Nat.div k 2=k / 2:=rfl;have e4:Nat.div q 2=q / 2:=rfl;omega
  cases i with
  | zero=>
   cases j with
   | zero=>exact absurd rfl hne
   | succ q=>rw [h0,hp,hp];rcases hm q with e | e<;>rw [e]<;>rfl
  | succ k=>
   cases j with
   | zero=>rw [h0,hp,hp];rcases hm k with e | e<;>rw [e]<;>rfl
   | succ q=>
    rw [hg] at hi hj;rw [hp,hp];have hne':k≠q:=λe=>hne (by rw [e]);rcases hm k with e | e<;>rcases hm q with e' | e'<;>rw [e] at hi ⊢ <;> rw [e'] at hj ⊢
    show (T.nd (l.put (Nat.div k 2) a) v r).put (q+1) b=(T.nd (l.put (Nat.div q 2) b) v r).put (k+1) a;rw [hp,hp,e,e'];show T.nd _ _ _=T.nd _ _ _;rw [T.sW l _ _ hi hj (hd k q (by rw [e,e']) hne') a b];show (T.nd (l.put (Nat.div k 2) a) v r).put (q+1) b=(T.nd l v (r.put (Nat.div q 2) b)).put (k+1) a;rw [hp,hp,e,e'];rfl;show (T.nd l v (r.put (Nat.div k 2) a)).put (q+1) b=(T.nd (l.put (Nat.div q 2) b) v r).put (k+1) a;rw [hp,hp,e,e'];rfl;show (T.nd l v (r.put (Nat.div k 2) a)).put (q+1) b=(T.nd l v (r.put (Nat.div q 2) b)).put (k+1) a;rw [hp,hp,e,e'];show T.nd _ _ _=T.nd _ _ _;rw [T.sW r _ _ hi hj (hd k q (by rw [e,e']) hne') a b]
theorem zA {a:Nat}{x y:OF}{cf:D7}{ls:List d9}{env:T d9}{m:Mem}{outs:List VM}(h:K7 a x y cf ls env m=some outs):
  ∃id off rs n rows rows',x ls env=.ptr id off∧Nat.beq (len' (y ls env).cells) a=true∧Nat.blt id m.lim=false∧K4 (y ls env).cells=true∧m.get id=some (.cells rs n rows)∧
   U6 rs n rows off (y ls env).cells=some rows'∧outs=[⟨.undef,m.set id (.cells rs n rows')⟩]:=by
 obtain⟨id,off,b,h⟩:=cZ h;obtain⟨c,h⟩:=D5 h;obtain⟨d,h⟩:=iU h;obtain⟨e,h⟩:=D5 h;obtain⟨rs,n,rows,f,h⟩:=bJ h;obtain⟨rows',g,h⟩:=z8 h;cases h;exact⟨id,off,rs,n,rows,rows',b,c,d,e,f,g,rfl⟩
theorem KV {a:Nat}{x y:OF}{cf:D7}{ls:List d9}{env:T d9}{m:Mem}{id off rs n:Nat}{rows rows':T (List d9)}(b:x ls env=.ptr id off)(c:Nat.beq (len' (y ls env).cells) a=true)
  (d:Nat.blt id m.lim=false) (e:K4 (y ls env).cells=true) (f:m.get id=some (.cells rs n rows)) (g:U6 rs n rows off (y ls env).cells=some rows'):
  K7 a x y cf ls env m=some [⟨.undef,m.set id (.cells rs n rows')⟩]:=by
 show eP (x ls env) _=_;rw [b];show bi (Nat.beq _ _) _ _=_;rw [c];show bi (Nat.blt id m.lim) _ _=_;rw [d];show bi (K4 _) _ _=_;rw [e];show R4 _ _=_;rw [f];show ob _ _=_;rw [g];rfl
theorem NH {A i:Nat}{x y p B:OF}{cf:D7}{ls ls':List d9}{env:T d9}{m:Mem}{id off b h:Nat}(s:x ls env=.ptr id off)(g:p ls' env=.ptr b h)(d:b≠id)
  {u v:List VM} (L:K7 A x y cf ls env m=some u) {m1:Mem} (K:u=[⟨.undef,m1⟩]) (M:K7 i p B cf ls' env m1=some v):
  ∃mc m2,v=[⟨.undef,m2⟩]∧K7 i p B cf ls' env m=some [⟨.undef,mc⟩]∧K7 A x y cf ls env mc=some [⟨.undef,m2⟩]:=by
 obtain⟨N,P,z,n,w,c,q,C,D,E,k,F,rfl⟩:=zA L;cases K;rw [s] at q;cases q;obtain⟨O,Q,f,l,o,a,r,G,H,I,j,J,rfl⟩:=zA M;rw [g] at r;cases r;rw [Mem.wE k,if_neg d] at j;refine⟨_,_,rfl,KV g G H I j J,?_⟩;have:=KV (m:=m.set b (.cells f l a)) (cf:=cf) s C D E (by rw [Mem.wE j,if_neg (af4 d)];exact k) F;rw [this];have e:(m.set b (.cells f l a)).set id (.cells z n c)=(m.set id (.cells z n c)).set b (.cells f l a):=by unfold Mem.set;rw [T.sW m.t b id j k d]
 rw [e]
section
variable {P:Program}{G:Mem}{ι:H6}{m:Mem}{w:World}{slots:List Nat}{done:List (Option Nat)}{ls:List d9}{env:T d9}{a:Act}{ops:Array Oper}{Q:Exit->Act->World->Prop}
theorem om {r:Option Nat}{cf:D7}(c:lI P G cf)(s:St P ι (m.nm ι) slots done ls env a.tmps)(l:RM P G ι m w.heap){i:Nat}{o:Oper}(n:ops[i]?=some o)(k:o.guard=none)
  {v:d9} {m1:Mem} (p:OP cf (jv P slots done o.op) ls env m=some [⟨v,m1⟩]) (b:∀x,v≠.ng x) {K:Act->World->Prop}
  (j:∀ι' w',Step P G ι m w ι' m1 w'->v.lt (m1.nm ι')->K (a.put o.dst (l7 ι' v)) w'):wpOpIn (FR r) 0 P ops Q i K a w:=by
 unfold wpOpIn;rw [n];refine OT (g:=none) c s l (by rw [k];rfl) (outs:=[⟨v,m1⟩]) p ?_ ?_;intro x d ι' w' e f;obtain rfl:=aA.1 d;exact j ι' w' e f;intro x d y ι' w' h;obtain rfl:=aA.1 d;exact absurd h (b y)
theorem St.stepped {ι':H6}{m':Mem}{w':World}{tmps:Array Value}(s:St P ι (m.nm ι) slots done ls env tmps)(h:Step P G ι m w ι' m' w'):St P ι' (m'.nm ι') slots done ls env tmps:=
 St.mono (n:=m.nm ι) s h.ext (Mem.U2 h.has h.ext)
theorem pR (a:Act)(v:Value):a.put none v=a:=rfl
theorem NI {r:Option Nat}{cf:D7}(C:lI P G cf){nt:Nat}(h3:3<=ops.size){po:Sn}{s R:Nat}{v B v':N9}{d1:Option Nat}
  (hx:nT P slots [] ops (ops.size-3)=some (⟨.p po,none,none⟩,d1)) (hy:nT P slots [(ops[ops.size-3]?).bind (·.dst)] ops (ops.size-2)=some (⟨.e (.store s (.loc 0) v),none,none⟩,none))
  (hz:nT P slots [] ops (ops.size-1)=some (⟨.e (.store R B v'),none,none⟩,none)) (am:JV B=true) (b8:JV v'=true)
  (ay:∀(i:Nat) (o:Oper) (t:Tmp),ops[i]?=some o->o.dst=some t->t<nt) (hg:∀(i:Nat) (o:Oper),ops[i]?=some o->o.guard=none)
  (af:∀(i:Nat) (o:Oper),ops[i]?=some o->∀e∈o.after,Region.binds .any e=true->e.on<i) (b9:zu ops (ops.size-2) (ops.size-3))
  {es:List EM} (hm:RM P G ι m w.heap) (V:Q6 ι (m.nm ι) slots env a.tmps) (ap:nt<=a.tmps.size)
  (hv:aI [⟨.p po,none,none⟩,⟨.e (.store s (.loc 0) v),none,none⟩,⟨.e (.storeAp R B v' (.loc 1)),none,none⟩] cf [] env m=some es)
  (hQ:∀e∈es,e.px=none->e.mks=[]->∀ι' w' B,Step P G ι m w ι' e.m w'->Q6 ι' (e.m.nm ι') slots e.env B.tmps->B.defers=a.defers->B.tmps.size=a.tmps.size->Q .normal B w')
  {listed:Array Bool} (hs:listed.size=ops.size) (ae:jf ops listed) (hl:∀j,listed.getD j false=decide (j<ops.size-3)):wpAnyIn (FR r) 0 P .any ops Q 3 listed a w:=by
 obtain⟨l1,h1,k1⟩:=xU (o:=.p po) (d:=none) (g:=none) (k:=aI [⟨.e (.store s (.loc 0) v),none,none⟩,⟨.e (.storeAp R B v' (.loc 1)),none,none⟩]) hv;obtain⟨x,hp,h1⟩:=z8 h1;cases h1;obtain⟨os1,ag,b0⟩:=k1 _ (aA.2 rfl);have ag:aI [⟨.e (.store s (.loc 0) v),none,none⟩,⟨.e (.storeAp R B v' (.loc 1)),none,none⟩] cf [x] env m=some os1:=ag;obtain⟨l2,J,k2⟩:=xU (o:=.e (.store s (.loc 0) v)) (d:=none) (g:=none) (k:=aI [⟨.e (.storeAp R B v' (.loc 1)),none,none⟩]) ag;have J:K7 s (D8 (.loc 0)) (D8 v) cf [x] env m=some l2:=J;obtain⟨i1,o1,rs,n,bd,aj,a1,_,_,_,a5,_,e2⟩:=zA J;obtain⟨os2,W,b4⟩:=k2 _ (by rw [e2];exact aA.2 rfl);generalize hm1:m.set i1 (.cells rs n aj)=m1 at e2 W;have W:aI [⟨.e (.storeAp R B v' (.loc 1)),none,none⟩] cf [.undef,x] env m1=some os2:=W;obtain⟨l3,a8,k3⟩:=xU (o:=.e (.storeAp R B v' (.loc 1))) (d:=none) (g:=none) (k:=j6) W;have a8:BQ R (D8 B) (D8 v') (D8 (.loc 1)) cf [.undef,x] env m1=some l3:=a8;obtain⟨i2,o2,b1,av⟩:=cZ a8;obtain⟨ba,o1',b2,aw⟩:=cZ av;obtain⟨b3,ax⟩:=iU aw;have ex:x=.ptr i1 o1:=a1;have al:x=.ptr ba o1':=b2;rw [ex] at al;cases al;have az:i2≠i1:=λe=>by rw [e] at b3;simp [aat] at b3
 have au:D8 B [] env=.ptr i2 o2:=by rw [← zy am [.undef,x] env];exact b1
 have a0:K7 R (D8 B) (D8 v') cf [] env m1=some l3:=by have e4:K7 R (D8 B) (D8 v') cf [.undef,x] env m1=some l3:=ax;rw [← e4];simp only [K7,zy am [.undef,x] env,zy b8 [.undef,x] env]
 obtain⟨mc,m2,e3,hc,hb⟩:=NH (x:=D8 (.loc 0)) (y:=D8 v) (ls:=[x]) (ls':=[]) a1 au az J e2 a0;obtain⟨os3,ah,b5⟩:=k3 ⟨.undef,m2⟩ (by rw [e3];exact aA.2 rfl);have ah:some [(⟨env,m2,none,[]⟩:EM)]=some os3:=ah;cases ah;have ao:(⟨env,m2,none,[]⟩:EM)∈es:=b0 _ (b4 _ (b5 _ (aA.2 rfl)));obtain⟨T,hA,rfl,a9,aa,_⟩:=jL hx;obtain⟨oB,U,ab,H,_,_⟩:=jL hy;obtain⟨oC,hC,ac,K,_,_⟩:=jL hz;have a9:.p po=jv P slots [] T.op:=a9;have H:.e (.store s (.loc 0) v)=jv P slots [T.dst] oB.op:=by rw [hA] at H;exact H
 have K:.e (.store R B v')=jv P slots [] oC.op:=K;have aa:none=Ey slots T.dst:=aa;have a4:∀y,x≠.ng y:=λy e=>by rw [ex] at e;cases e
 have I:∀(L:Array Bool) (i:Nat) (o:Oper),L.size=ops.size->ops[i]?=some o->L.getD i false=false->(∀j,j<i->L.getD j false=true)->i∈Region.ready .any ops L:=λL i o hL ho ai N=>mem_ready.2 ⟨by rw [yj (by rw [hL];exact (q8.1 ho).1)];exact ai,o,ho,λe he hb=>N _ (af i o ho e he hb)⟩;have D:∀(L:Array Bool) (i:Nat),L.size=ops.size->i∈Region.ready .any ops L->i<ops.size∧L.getD i false=false∧∀o,ops[i]?=some o->∀e∈o.after,Region.binds .any e=true->L.getD e.on false=true:=λL i hL A=>by obtain⟨h1,o,ho,J⟩:=mem_ready.1 A;have F:=(q8.1 ho).1;exact⟨F,by rw [← yj (by omega)];exact h1,λo' aq=>by rw [ho] at aq;cases aq;exact J⟩
 have nB:∀L:Array Bool,L.size=ops.size->jf ops L->L.getD (ops.size-3) false=false->ops.size-2∉Region.ready .any ops L:=λL hL ad ai A=>by have:=b9.listed ad (D L _ hL A).2.2;rw [ai] at this;cases this
 have rC:∀(L:Array Bool),L.size=ops.size->jf ops L->∀i,i∈Region.ready .any ops L->jf ops (L.setIfInBounds i true):=λL hL ad i A=>by obtain⟨_,o,ho,J⟩:=mem_ready.1 A;exact Da ad hL ho J
 have lA:∀j,(listed.setIfInBounds (ops.size-3) true).getD j false=decide (j<ops.size-2):=λj=>by rw [U4 _ _ _ (by omega),hl];by_cases u:j=ops.size-3;rw [if_pos u,decide_eq_true (by omega)];rw [if_neg u];exact decide_eq_decide.2 (by omega)
 have lC:∀j,(listed.setIfInBounds (ops.size-1) true).getD j false=decide (j<ops.size-3∨j=ops.size-1):=λj=>by rw [U4 _ _ _ (by omega),hl];by_cases u:j=ops.size-1;rw [if_pos u,decide_eq_true (.inr u)];rw [if_neg u];exact decide_eq_decide.2 (by omega)
 have X:∀j,((listed.setIfInBounds (ops.size-3) true).setIfInBounds (ops.size-2) true).getD j false=decide (j<ops.size-1):=λj=>by rw [U4 _ _ _ (by simp;omega),lA];by_cases u:j=ops.size-2;rw [if_pos u,decide_eq_true (by omega)];rw [if_neg u];exact decide_eq_decide.2 (by omega)
 have Y:∀j,((listed.setIfInBounds (ops.size-3) true).setIfInBounds (ops.size-1) true).getD j false=decide (j<ops.size-2∨j=ops.size-1):=λj=>by rw [U4 _ _ _ (by simp;omega),lA];by_cases u:j=ops.size-1;rw [if_pos u,decide_eq_true (.inr u)];rw [if_neg u];exact decide_eq_decide.2 (by omega)
 have Z:∀j,((listed.setIfInBounds (ops.size-1) true).setIfInBounds (ops.size-3) true).getD j false=decide (j<ops.size-2∨j=ops.size-1):=λj=>by rw [U4 _ _ _ (by simp;omega),lC];by_cases u:j=ops.size-3;rw [if_pos u,decide_eq_true (.inl (by omega))];rw [if_neg u];exact decide_eq_decide.2 (by omega)
 have a7:∀(L:Array Bool) (b:Act) (w':World) (ι':H6),(∀j,j<ops.size->L.getD j false=true)->L.size=ops.size->Step P G ι m w ι' m2 w'->Q6 ι' (m2.nm ι') slots env b.tmps->b.defers=a.defers->b.tmps.size=a.tmps.size->
   wpAnyIn (FR r) 0 P .any ops Q 0 L b w':=λL b w' ι' N hL b6 he hd b7=>by
  refine⟨List.eq_nil_iff_forall_not_mem.2 λi A=>?_,hQ _ ao rfl rfl ι' w' b b6 he hd b7⟩;obtain⟨h1,J,_⟩:=D L i hL A;rw [N i h1] at J;cases J
 have bb:ops.size-2<ops.size:=by omega
 have a3:∀M:Mem,OP cf (jv P slots [] T.op) [] env M=some [⟨x,M⟩]:=λM=>by rw [← a9];show ob (lX po [] env) _=_;rw [hp];rfl
 have a6:∀(ι':H6) (M:Mem) (b:Act),nt<=b.tmps.size->Q6 ι' (M.nm ι') slots env b.tmps->∀w':World,RM P G ι' M w'.heap->x.lt (M.nm ι')->St P ι' (M.nm ι') slots [T.dst] [x] env (b.put T.dst (l7 ι' x)).tmps:=λι' M b hb he w' hr F=>by have s0:St P ι' (M.nm ι') slots [] [] env b.tmps:=St.start hr he;have:=s0.put T.dst (λt ht=>q9 (ay _ _ t hA ht) hb) F;rw [← aa] at this;rw [(fH b T.dst (l7 ι' x)).1];exact this
 refine⟨λf=>?_,λi A=>?_⟩;have:=I listed (ops.size-3) T hs hA (by rw [hl];simp) (λj u=>by rw [hl];simp;omega);rw [f] at this;cases this;have c:=D listed i hs A;have O:¬ i<ops.size-3:=λh=>by have:=c.2.1;rw [hl,decide_eq_true h] at this;cases this
 have l:i=ops.size-3∨i=ops.size-2∨i=ops.size-1:=by have:=c.1;omega
 rcases l with rfl | rfl | rfl
 ·
  have bc:=rC listed hs ae _ A;refine om C (St.start hm V) hm hA (hg _ _ hA) (a3 m) a4 λar w1 z F=>?_;have sA:=a6 ar m a ap (z.env V) w1 z.rm F;refine⟨λf=>?_,λi A=>?_⟩;have:=I (listed.setIfInBounds (ops.size-3) true) (ops.size-2) oB (by simpa using hs) U (by rw [lA];simp) (λj u=>by rw [lA];simp;omega);rw [f] at this;cases this;have c:=D _ i (by simpa using hs) A;have O:¬ i<ops.size-2:=λh=>by have:=c.2.1;rw [lA,decide_eq_true h] at this;cases this
  have l:i=ops.size-2∨i=ops.size-1:=by have:=c.1;omega
  rcases l with rfl | rfl;refine om C sA z.rm U (hg _ _ U) (v:=.undef) (m1:=m1) (by rw [← H];exact J.trans (by rw [e2])) (by simp) λak w2 q _=>?_;rw [← ab,pR];have sB:=sA.stepped q;refine⟨λf=>?_,λi A=>?_⟩;have:=I ((listed.setIfInBounds (ops.size-3) true).setIfInBounds (ops.size-2) true) (ops.size-1) oC (by simpa using hs) hC (by rw [X];simp) (λj u=>by rw [X];simp;omega);rw [f] at this;cases this;have c:=D _ i (by simpa using hs) A;have O:¬ i<ops.size-1:=λh=>by have:=c.2.1;rw [X,decide_eq_true h] at this;cases this
  obtain rfl:i=ops.size-1:=by have:=c.1;omega
  refine om C (St.start q.rm sB.env) q.rm hC (hg _ _ hC) (v:=.undef) (m1:=m2) (by rw [← K];exact a0.trans (by rw [e3])) (by simp) λS w3 E _=>?_;rw [← ac,pR];exact a7 _ _ w3 S (λj u=>by rw [U4 _ _ _ (by simp;omega),X];by_cases h:j=ops.size-1<;>simp [h];omega) (by simpa using hs) (z.trans (q.trans E)) (E.env sB.env) (fH _ _ _).2 (aQ _ _ _)
  refine om C (St.start z.rm sA.env) z.rm hC (hg _ _ hC) (v:=.undef) (m1:=mc) (by rw [← K];exact hc) (by simp) λak w2 q _=>?_;rw [← ac,pR];have sC:=sA.stepped q;refine⟨λf=>?_,λi A=>?_⟩;have:=I ((listed.setIfInBounds (ops.size-3) true).setIfInBounds (ops.size-1) true) (ops.size-2) oB (by simpa using hs) U (by rw [Y];simp;omega) (λj u=>by rw [Y];simp;omega);rw [f] at this;cases this;have c:=D _ i (by simpa using hs) A;have O:¬ (i<ops.size-2∨i=ops.size-1):=λh=>by have:=c.2.1;rw [Y,decide_eq_true h] at this;cases this
  obtain rfl:i=ops.size-2:=by have:=c.1;omega
  refine om C sC q.rm U (hg _ _ U) (v:=.undef) (m1:=m2) (by rw [← H];exact hb) (by simp) λS w3 E _=>?_;rw [← ab,pR];exact a7 _ _ w3 S (λj u=>by rw [U4 _ _ _ (by simp;omega),Y];by_cases h:j=ops.size-2<;>simp [h];omega) (by simpa using hs) (z.trans (q.trans E)) (E.env sC.env) (fH _ _ _).2 (aQ _ _ _)
 exact absurd A (nB listed hs ae (by rw [hl];simp))
 ·
  refine om C (St.start hm V) hm hC (hg _ _ hC) (v:=.undef) (m1:=mc) (by rw [← K];exact hc) (by simp) λar w1 z _=>?_;rw [← ac,pR];have an:=rC listed hs ae _ A;have a2:=z.env V;refine⟨λf=>?_,λi A=>?_⟩;have:=I (listed.setIfInBounds (ops.size-1) true) (ops.size-3) T (by simpa using hs) hA (by rw [lC];simp;omega) (λj u=>by rw [lC];simp;omega);rw [f] at this;cases this;have c:=D _ i (by simpa using hs) A;have O:¬ (i<ops.size-3∨i=ops.size-1):=λh=>by have:=c.2.1;rw [lC,decide_eq_true h] at this;cases this
  have l:i=ops.size-3∨i=ops.size-2:=by have:=c.1;omega
  rcases l with rfl | rfl;refine om C (St.start z.rm a2) z.rm hA (hg _ _ hA) (a3 mc) a4 λak w2 q F=>?_;have sA:=a6 ak mc a ap (q.env a2) w2 q.rm F;refine⟨λf=>?_,λi A=>?_⟩;have:=I ((listed.setIfInBounds (ops.size-1) true).setIfInBounds (ops.size-3) true) (ops.size-2) oB (by simpa using hs) U (by rw [Z];simp;omega) (λj u=>by rw [Z];simp;omega);rw [f] at this;cases this;have c:=D _ i (by simpa using hs) A;have O:¬ (i<ops.size-2∨i=ops.size-1):=λh=>by have:=c.2.1;rw [Z,decide_eq_true h] at this;cases this
  obtain rfl:i=ops.size-2:=by have:=c.1;omega
  refine om C sA q.rm U (hg _ _ U) (v:=.undef) (m1:=m2) (by rw [← H];exact hb) (by simp) λS w3 E _=>?_;rw [← ab,pR];exact a7 _ _ w3 S (λj u=>by rw [U4 _ _ _ (by simp;omega),Z];by_cases h:j=ops.size-2<;>simp [h];omega) (by simpa using hs) (z.trans (q.trans E)) (E.env sA.env) (fH _ _ _).2 (aQ _ _ _)
  exact absurd A (nB _ (by simpa using hs) an (by rw [lC];simp;omega))
theorem KX {ops:Array Oper}{k i:Nat}{o:Oper}(h:(ops.extract 0 k)[i]?=some o):ops[i]?=some o:=by rw [Array.getElem?_extract] at h;split at h;rw [Z8] at h;exact h;cases h
theorem Iq {ops:Array Oper}(h:Hq (masks ops.toList) ops=true):3<=ops.size∧(∀(i:Nat) (o:Oper),ops[i]?=some o->o.guard=none)∧
  (∀(i:Nat) (o:Oper),ops[i]?=some o->∀e∈o.after,Region.binds .any e=true->e.on<i)∧(∀i,ops.size-3<=i->i<ops.size->∀j,j<ops.size-3->zu ops i j)∧zu ops (ops.size-2) (ops.size-3):=by
 simp only [Hq,gI,aap,abT] at h;obtain⟨⟨⟨c,k⟩,l⟩,m⟩:=h;have c:3<=ops.size:=K9 c;have b:∀(i:Nat) (o:Oper),ops[i]?=some o->(∀e∈o.after,Region.binds .any e=true->e.on<i)∧o.guard=none:=λi o a=>by have:=k i (q8.1 a).1;rw [a] at this;simp only [gI,aap] at this;refine⟨λe p n=>?_,Option.isNone_iff_eq_none.1 this.2⟩;have:=this.1 e (by simpa using p);rw [n] at this;simpa using this
 refine⟨c,λi o a=>(b i o a).2,λi o a=>(b i o a).1,λi s q j r=>?_,dO _ _ _ m⟩;obtain⟨⟨d,f⟩,g⟩:=l j r;have:i=ops.size-3∨i=ops.size-2∨i=ops.size-1:=by omega
 rcases this with rfl | rfl | rfl;exact dO _ _ _ d;exact dO _ _ _ f;exact dO _ _ _ g
def afj (Q:Exit->Act->World->Prop)(N:Act->World->Prop):Exit->Act->World->Prop
 | .normal,b,w=>N b w
 | x,b,w=>Q x b w
theorem ni {cf:D7}(Z:P.follows .mixedOrders=true)(a1:lI P G cf)(slots:List Nat)(nt:Nat)(r:Option Nat):jM P G slots nt cf r:=by
 intro id ops ac au H a8 Q ir env m k ι w a outs hm ae a6 X aw hv hQ;simp only [O8] at H;split at H;unfold Cb at H;split at H;rename_i n l hd;split at H;rename_i ap;obtain⟨h3,hg,O,ad,aq⟩:=Iq ap;unfold Br at H;split at H;rename_i po d1 s v s' a' v' hx hy hz;split at H;rename_i a5;simp only [gI] at a5;cases H;have hv:bnd (bnd (rU l cf m.nx [] env (reserve n m) [reserve n m]) (eT k)) (λo=>aT.rec (bnd (aI [⟨.p po,none,none⟩,⟨.e (.store s (.loc 0) v),none,none⟩,⟨.e (.storeAp s' a' v' (.loc 1)),none,none⟩] cf [] o.env o.m) (eT o.marks))
  (λ_=>some [o]) (some [o]) o.x)=some outs:=hv
 obtain⟨os,I,hk⟩:=U7 hv;obtain⟨es,a3,ah⟩:=U7 I;refine wpIn_region_any Z ?_;have T:(ops.extract 0 (ops.size-3)).size=ops.size-3:=by rw [Array.size_extract];omega
 have h1:=Ak (r:=r) a1 slots nt _ n l hd (λi o t ho ht=>gK a8 i o t (KX ho) ht)
  (afj Q λb Y=>∃M∈es,∃D,M.px=none∧M.mks=[]∧Step P G ι m w D M.m Y∧Q6 D (M.m.nm D) slots M.env b.tmps∧b.defers=a.defers∧b.tmps.size=a.tmps.size) env m ι w a es hm ae a6 a3
  (λM W J A D Y b B u q N=>⟨M,W,D,J,A,B,u,q,N⟩) ?_
 rw [T] at h1;have:=ET (ops:=ops) (k:=ops.size-3) (Q:=Q) (Q1:=afj Q _) (by omega) hg O ad (λc a w h=>h) (λ⟨a,w,h⟩=>⟨a,w,h⟩) ?_ (ops.size-3) (Array.replicate ops.size false) (Array.replicate (ops.size-3) false) a _ (by simp) (by simp)
  (λj=>by rw [Hl,Hl,abH,abH];split<;>split<;>rfl)
  (λi o h=>by rw [Hl,abH] at h;split at h<;>cases h)
  (by unfold qW;rw [aeW.2 (λi _=>by rw [Hl,abH];split<;>rfl),aga]) h1
 rw [show ops.size-3+(ops.size-(ops.size-3))=ops.size from by omega] at this;exact this;rintro b Y ⟨M,W,D,J,A,B,u,q,N⟩ listed hls hcl hl;rw [show ops.size-(ops.size-3)=3 from by omega];obtain⟨os1,E,K⟩:=ah M W;obtain⟨d,C,g,f⟩:=M;obtain rfl:g=none:=J;obtain rfl:f=[]:=A;have E:mH .normal d C k=some os1:=E;cases E;obtain⟨os2,F,L⟩:=hk _ (K _ (aA.2 rfl));have F:bnd (aI [⟨.p po,none,none⟩,⟨.e (.store s (.loc 0) v),none,none⟩,⟨.e (.storeAp s' a' v' (.loc 1)),none,none⟩] cf [] d C) (eT k)=some os2:=F;obtain⟨av,ag,ao⟩:=U7 F;refine NI a1 h3 hx hy hz a5.1 a5.2 (gK a8) hg O aq B.rm u (by rw [N];exact a6) ag ?_ hls hcl hl;intro e2 an aj ai al ar am a0 af a2 ab;obtain⟨os3,R,a7⟩:=ao e2 an;obtain⟨V,ak,aa,a9⟩:=e2;obtain rfl:aa=none:=aj;obtain rfl:a9=[]:=ai;have R:mH .normal V ak k=some os3:=R;cases R;exact hQ _ (L _ (a7 _ (aA.2 rfl))) al ar am (B.trans a0) af (ab.trans N) (by rw [a2,q];exact X.step (B.trans a0)) (aB rfl);intro M W y J A D Y b B U u q N;obtain⟨os1,E,K⟩:=ah M W;obtain⟨d,C,g,f⟩:=M;obtain rfl:g=some y:=J;obtain rfl:f=[]:=A;have E:some [(⟨.ret,d,C,k,some y⟩:Out)]=some os1:=E;cases E;obtain⟨os2,F,L⟩:=hk _ (K _ (aA.2 rfl));have F:some [(⟨.ret,d,C,k,some y⟩:Out)]=some os2:=F;cases F;exact hQ _ (L _ (aA.2 rfl)) D Y b B u N (by rw [q];exact X.step B) (λz hz=>by cases hz;exact⟨rfl,U⟩);cases H;cases H;cases H;cases H;have a4:∃n l,ac=.dreg n l:=by unfold xu at H;split at H;cases H;split at H;cases H;exact⟨_,_,rfl⟩;cases H
 obtain⟨n,l,rfl⟩:=a4;have hv:bnd (rU l cf m.nx [] env (reserve n m) [reserve n m]) (eT k)=some outs:=hv;obtain⟨es,a3,hk⟩:=U7 hv;refine wpIn_region_any Z (Ak a1 slots nt r ops n l H (gK a8) Q env m ι w a es hm ae a6 a3 ?_ ?_);intro e W J A D Y a' B u q T;obtain⟨os,I,S⟩:=hk e W;obtain⟨d,C,g,f⟩:=e;obtain rfl:g=none:=J;obtain rfl:f=[]:=A;have I:mH .normal d C k=some os:=I;cases I;exact hQ _ (S _ (aA.2 rfl)) D Y a' B u T (by rw [q];exact X.step B) (aB rfl);intro e W y J A D Y a' B U u q T;obtain⟨os,I,S⟩:=hk e W;obtain⟨d,C,g,f⟩:=e;obtain rfl:g=some y:=J;obtain rfl:f=[]:=A;have I:some [(⟨.ret,d,C,k,some y⟩:Out)]=some os:=I;cases I;exact hQ _ (S _ (aA.2 rfl)) D Y a' B u T (by rw [q];exact X.step B) (λz hz=>by cases hz;exact⟨rfl,U⟩)
end
section
variable {P:Program}{G:Mem}{ι:H6}{n:Nm}{m:Mem}{w:World}{slots:List Nat}
def pU (ι:H6):Option d9->FrameMode->Prop
 | some x,u=>u=.panicking [{v:=l7 ι x,recovered:=false}]
 | none,u=>u=.returning∨∃v,u=.panicking [{v,recovered:=true}]
theorem pU.settle {md:Option d9}{u:FrameMode}(h:pU ι md u):Go.settle u=wz ι md:=by
 cases md with
 | some x=>obtain rfl:u=_:=h;rfl
 | none=>rcases h with rfl | ⟨v,rfl⟩<;>rfl
theorem pU.of {a:Option d9}:pU ι a (wz ι a):=by
 cases a with
 | some x=>rfl
 | none=>exact .inl rfl
theorem pU.step {ι':H6}{m':Mem}{w':World}{a:Option d9}{u:FrameMode}(h:pU ι a u)(b:zq ι m a)(c:Step P G ι m w ι' m' w'):pU ι' a u:=by
 cases a with
 | some x=>have h:u=_:=h;have:=c.l7 (b x rfl);show u=.panicking [{v:=l7 ι' x,recovered:=false}];rw [this];exact h
 | none=>exact h
theorem Rc (i:Inst)(l:List Inst)(cf:D7)(ls:List d9)(env:T d9)(m:Mem)(md:Option d9):
  uK (i::l) cf ls env m md=match isRec i with
   | true=>match md with
    | some x=>uK l cf (x::ls) (bD i.dst x env) m none
    | none=>uK l cf (.nilIface::ls) (bD i.dst .nilIface env) m none
   | false=>match i.op with
    | .p o=>ob (Eu i.guard (lX o) ls env) λv=>uK l cf (v::ls) (bD i.dst v env) m md
    | .r o=>ob (vO i.guard (qo o) ls env m) λv=>uK l cf (v::ls) (bD i.dst v env) m md
    | _=>none:=rfl
theorem uj {ops:Array Oper}{o:Oper}{i:Nat}{c:List Nat}(j:ops[i]?=some o){b:List (Option Nat)}{ls:List d9}{env:T d9}{a:Act}{cs:List Frame}{Q:Exit->Act->List Frame->World->Prop}
  (s:St P ι n slots b ls env a.tmps) {g:Option (N9×Bool)} (f:lN ops b o.guard g) {v u:d9} (e:u=bi (rG g ls env) v .undef)
  (d:rG g ls env=true->(execOp a.eval o).run P w=.ok (.value (l7 ι v)) w) (h:wpOpsSIn Fence.wide 0 P ops Q c (a.put o.dst (l7 ι u)) cs w):
  wpOpsSIn Fence.wide 0 P ops Q (i::c) a cs w:=by
 simp only [wpOpsSIn,j];refine⟨λ_ _=>trivial,?_⟩;rw [mo s f];cases hb:rG g ls env with
 | true=>rw [hb] at e;obtain rfl:u=v:=e;simp only [if_true];rw [d hb];exact h
 | false=>rw [hb] at e;obtain rfl:u=.undef:=e;rw [jK] at h;simp only [aau,if_false];exact h
theorem XG (g:Option (N9×Bool))(f:PF)(ls:List d9)(env:T d9):Eu g f ls env=bi (rG g ls env) (f ls env) (some .undef):=by cases g<;>rfl
theorem XH (g:Option (N9×Bool))(f:RF)(ls:List d9)(env:T d9)(m:Mem):vO g f ls env m=bi (rG g ls env) (f ls env m) (some .undef):=by cases g<;>rfl
theorem abb {a:List (Option Nat)}{c:Op}{d:Sn}(h:.p d=jv P slots a c):dY P slots a c=some (.p d):=by unfold jv at h;split at h;rename_i e b;rw [b,← h];cases h
theorem abd {a:List (Option Nat)}{c:Op}{d:MO}(h:.r d=jv P slots a c):dY P slots a c=some (.r d):=by unfold jv at h;split at h;rename_i e b;rw [b,← h];cases h
theorem Uk {a:List (Option Nat)}{c:Op}(h:.e .recover=jv P slots a c):dY P slots a c=some (.e .recover):=by unfold jv at h;split at h;rename_i d b;rw [b,← h];cases h
theorem Ul {i:Inst}(h:isRec i=true):i.op=.e .recover∧i.guard=none:=by unfold isRec at h;split at h;exact⟨by assumption,by assumption⟩;cases h
theorem NJ {cf:D7}{ops:Array Oper}{U:Nat}(O:∀(i:Nat)(o:Oper)(t:Tmp),ops[i]?=some o->o.dst=some t->t<U){Q:Exit->Act->List Frame->World->Prop}{c₀:Frame}{cs:List Frame}
  (hm:RM P G ι m w.heap):
  ∀(l:List Nat) (done:List (Option Nat)) (insts:List Inst),iT P slots ops done l=some insts->∀(ls:List d9) (env:T d9) (md:Option d9) (u:FrameMode) (a:Act) (outs:List (EM×Option d9)),
   U<=a.tmps.size->St P ι (m.nm ι) slots done ls env a.tmps->zq ι m md->pU ι md u->uK insts cf ls env m md=some outs->
   (∀r∈outs,∀u' a',r.1.m=m->Q6 ι (m.nm ι) slots r.1.env a'.tmps->a'.defers=a.defers->a'.tmps.size=a.tmps.size->zq ι m r.2->pU ι r.2 u'->Q .normal a' ({c₀ with mode:=u'}::cs) w)->
   wpOpsSIn Fence.wide 0 P ops Q l a ({c₀ with mode:=u}::cs) w:=by
 intro l;induction l with
 | nil=>
  intro done insts M ls env md u a outs A s n f g N;simp only [iT,gB] at M;subst M;have g:some [((⟨env,m,none,[]⟩:EM),md)]=some outs:=by rw [← g,uK]
  cases g;exact N _ (aA.2 rfl) u a rfl s.env rfl rfl n f
 | cons i rest ih=>
  intro done insts M ls env md u a outs A s n f g N;obtain⟨x,d,l,hx,hl,rfl⟩:=oh M;obtain⟨o,C,rfl,L,h3,D⟩:=jL hx;rw [Rc] at g;have j:∀(v:d9) (z:Option d9) (u':FrameMode),v.lt (m.nm ι)->zq ι m z->pU ι z u'->uK l cf (v::ls) (bD x.dst v env) m z=some outs->
    wpOpsSIn Fence.wide 0 P ops Q rest (a.put o.dst (l7 ι v)) ({c₀ with mode:=u'}::cs) w:=by
   intro v z u' R H B g;rw [h3] at g;have s':=s.put o.dst (λt ht=>q9 (O i o t C ht) A) R;refine ih _ _ hl _ _ z u' (a.put o.dst (l7 ι v)) outs (by rw [aQ];exact A) (by rw [(fH a o.dst (l7 ι v)).1];exact s') H B g ?_;intro r I S a' V W X Y Z e6;exact N r I S a' V W (by rw [X,(fH a o.dst _).2]) (Y.trans (aQ a o.dst _)) Z e6
  cases I:isRec x with
  | true=>
   rw [I] at g;obtain⟨E,F⟩:=Ul I;rw [E] at L;rw [F] at D;have q:=Uk L;have hw:Region.wanted o (yielded ops a.tmps)=true:=by rw [mo s D];rfl
   have K:(execOp a.eval o).run P w=.ok .recover w:=by
    cases ho:o.op with
    | call c=>
     rw [ho] at q;cases xH q with
     | recover hcal=>simp [execOp,ho,resolve,hcal,invoke,builtin]
    | _=>rw [ho] at q;cases xH q
   simp only [wpOpsSIn,C];refine⟨λ_ _=>trivial,?_⟩;rw [hw,if_pos rfl,K];cases md with
   | some y=>obtain rfl:u=.panicking [{v:=l7 ι y,recovered:=false}]:=f;exact j y none (.panicking [{v:=l7 ι y,recovered:=true}]) (n y rfl) (λ_ h=>by cases h) (.inr ⟨_,rfl⟩) g
   | none=>
    have J:recoverD ({c₀ with mode:=u}::cs)=none:=by rcases f with rfl | ⟨v,rfl⟩<;>rfl
    show (match recoverD ({c₀ with mode:=u}::cs) with
     | some (v,cs')=>wpOpsSIn Fence.wide 0 P ops Q rest (a.put o.dst v) cs' w
     | none=>wpOpsSIn Fence.wide 0 P ops Q rest (a.put o.dst .nilIface) ({c₀ with mode:=u}::cs) w)
    rw [J];have:=j .nilIface none u trivial n f g;simp only [l7] at this;exact this
  | false=>
   rw [I] at g;obtain⟨op,dst,k⟩:=x;cases op with
   | p po=>
    have g:ob (Eu k (lX po) ls env) (λv=>uK l cf (v::ls) (bD dst v env) m md)=some outs:=g;obtain⟨v,b,g⟩:=z8 g;rw [XG] at b;have q:=abb L;cases hb:rG k ls env with
    | true=>rw [hb] at b;have b:lX po ls env=some v:=b;obtain⟨E,F⟩:=qA s q b;exact uj C s D (v:=v) (u:=v) (by rw [hb];rfl) (λ_=>F o rfl w) (j v md u E n f g)
    | false=>rw [hb] at b;obtain rfl:d9.undef=v:=Xl b;exact uj C s D (v:=.undef) (u:=.undef) (by rw [hb];rfl) (λh=>by rw [hb] at h;cases h) (j .undef md u trivial n f g)
   | r ro=>
    have g:ob (vO k (qo ro) ls env m) (λv=>uK l cf (v::ls) (bD dst v env) m md)=some outs:=g;obtain⟨v,b,g⟩:=z8 g;rw [XH] at b;have q:=abd L;cases hb:rG k ls env with
    | true=>rw [hb] at b;have b:qo ro ls env m=some v:=b;obtain⟨E,F⟩:=qB s hm (sJ q) b;exact uj C s D (v:=v) (u:=v) (by rw [hb];rfl) (λ_=>F o rfl) (j v md u E n f g)
    | false=>rw [hb] at b;obtain rfl:d9.undef=v:=Xl b;exact uj C s D (v:=.undef) (u:=.undef) (by rw [hb];rfl) (λh=>by rw [hb] at h;cases h) (j .undef md u trivial n f g)
   | a _=>cases g
   | e _=>cases g
def Um (P:Program)(G:Mem)(slots:List Nat)(nt:Nat)(cf:D7)(fuel:Nat)(c:Code)(ac:P9):Prop:=
 ∀(Q:Exit->Act->List Frame->World->Prop) (env:T d9) (m:Mem) (md:Option d9) (ι:H6) (w:World) (a:Act) (c₀:Frame) (cs:List Frame) (u:FrameMode) (outs:List JQ),
  RM P G ι m w.heap->Q6 ι (m.nm ι) slots env a.tmps->nt<=a.tmps.size->a.defers=[]->zq ι m md->pU ι md u->OE ac cf fuel env m md=some outs->
  (∀r∈outs,∀ι' w' a' u',Step P G ι m w ι' r.o.m w'->Q6 ι' (r.o.m.nm ι') slots r.o.env a'.tmps->a'.tmps.size=a.tmps.size->eG ι' r.o.m r.o.marks a'.defers->QO ι' r.o->zq ι' r.o.m r.md->pU ι' r.md u'->Q (OV ι' r.o) a' ({c₀ with mode:=u'}::cs) w')->
  c.wpSIn Fence.wide 0 P Q a ({c₀ with mode:=u}::cs) w
theorem bR {y:Nat}{cf:D7}(l:lI P G cf)(b:Nat)(d:jM P G slots y cf none){c:Code}{ac:P9}(F:O8 P slots c=some ac)(K:tmpsIn y c=true)
  (p:∀env m md,OE ac cf b env m md=bnd (xk ac cf b none env m []) λo=>some [⟨o,md⟩]):Um P G slots y cf b c ac:=by
 intro Q env m md ι w a A N u C I n r f i j B E;rw [p] at B;obtain⟨L,s,H⟩:=U7 B;refine wpSIn_of_wpIn rfl (qI l b d c ac F K _ none env m [] ι w a L I n r ⟨by rw [f];rfl,λ_ h=>by cases h⟩ ⟨rfl,λ_ h=>by cases h⟩ s ?_);intro o J z M D e g x q t;obtain⟨O,v,k⟩:=H o J;cases v;exact E _ (k _ (aA.2 rfl)) z M D u e g x q t (i.step e).1 (j.step i e)
theorem Rf {nt:Nat}{cf:D7}(C:lI P G cf)(j:Nat)(i:jM P G slots nt cf none):∀(c:Code) (ac:P9),O8 P slots c=some ac->tmpsIn nt c=true->Um P G slots nt cf j c ac:=by
 intro c;induction c with
 | region id ops d=>
  intro ac f A;cases d with
  | true=>refine bR C j i f A ?_;rcases Nv f with⟨n,l,rfl⟩ | ⟨n,l,t,rfl⟩;exact λo m K=>rfl;exact λo m K=>rfl
  | false=>
   have a3:=f;simp only [O8] at f;split at f;rename_i J hi;cases f;cases hr:MU J with
   | false=>refine bR C j i a3 A ?_;intro o m K;rw [OE,hr]
   | true=>intro Q o m K ι w a k O u outs L D E p I v H M;rw [OE,hr] at H;have H:bnd (uK J cf [] o m K) (λr=>some [⟨⟨.normal,r.1.env,r.1.m,[],none⟩,r.2⟩])=some outs:=H;obtain⟨os,U,hk⟩:=U7 H;refine wpSIn_region (NJ (gK A) L _ [] J hi [] o K u a os E (St.start L D) I v U ?_);intro r a4 u' V e1 e2 e3 e4 e5 e6;obtain⟨rs,a5,F⟩:=hk r a4;cases a5;obtain⟨⟨a1,Z,a8,a7⟩,a6⟩:=r;obtain rfl:Z=m:=e1;exact M _ (F _ (aA.2 rfl)) ι w V u' (Step.refl L) e2 e4 ⟨by rw [e3,p];rfl,λ_ h=>by cases h⟩ (aB rfl) e5 e6
   cases f
 | seq x y ihx ihy=>
  intro ac f A Q o m K ι w a k O u outs L D E p I v H M;simp only [tmpsIn,gI] at A;simp only [O8] at f;split at f;rename_i cx cy hx hy;cases f;rw [OE] at H;obtain⟨os,U,hk⟩:=U7 H;refine wpSIn_seq (ihx cx hx A.1 _ o m K ι w a k O u os L D E p I v U ?_);rintro⟨⟨x₀,env₀,m₀,k₀,pv₀⟩,md₀⟩ ho ι' w' V u' hst hen' hsz hmk' hpv hmd' hrel';obtain⟨os',B,F⟩:=hk _ ho;cases x₀ with
  | normal=>
   obtain rfl:pv₀=none:=jW hpv (by intro e;cases e);cases k₀ with
   | cons=>cases B
   | nil=>have B:OE cy cf j env₀ m₀ md₀=some os':=B;refine ihy cy hy A.2 Q env₀ m₀ md₀ ι' w' V k O u' os' hst.rm hen' (by rw [hsz];exact E) hmk'.1 hmd' hrel' B ?_;intro r hr a0 aa a2 a9 X R Y T W S N;exact M r (F _ hr) a0 aa a2 a9 (hst.trans X) R (Y.trans hsz) T W S N
  | exit id=>obtain rfl:pv₀=none:=jW hpv (by intro e;cases e);cases B;exact M _ (F _ (aA.2 rfl)) ι' w' V u' hst hen' hsz hmk' hpv hmd' hrel'
  | ret=>cases B;have:=M _ (F _ (aA.2 rfl)) ι' w' V u' hst hen' hsz hmk' hpv hmd' hrel';cases pv₀<;>exact this
  cases f
 | cond c x y ihx ihy=>
  intro ac f A Q o m K ι w a k O u outs L D E p I v H M;simp only [tmpsIn,gI] at A;simp only [O8] at f;split at f;rename_i z cx cy hz hx hy;cases f;rw [OE] at H;obtain⟨t,h1,H⟩:=pI H;obtain⟨e1,_⟩:=y9 (St.start L D) hz;refine wpSIn_cond (t:=t) (by rw [e1,h1];rfl) ?_;cases t with
  | true=>exact ihx cx hx A.1 Q o m K ι w a k O u outs L D E p I v H M
  | false=>exact ihy cy hy A.2 Q o m K ι w a k O u outs L D E p I v H M
  cases f
 | skip=>intro ac f A;simp only [O8,gB] at f;subst f;exact bR C j i rfl A λ_ _ _=>rfl
 | exit id=>intro ac f A;simp only [O8,gB] at f;subst f;exact bR C j i rfl A λ_ _ _=>rfl
 | ret=>intro ac f A;simp only [O8,gB] at f;subst f;exact bR C j i rfl A λ_ _ _=>rfl
 | block id x _=>
  intro ac f A;have q:∃y,ac=.block id y:=by simp only [O8] at f;split at f;cases f;exact⟨_,rfl⟩;cases f
  obtain⟨y,rfl⟩:=q;exact bR C j i f A λ_ _ _=>rfl
 | loop x _=>
  intro ac f A;have q:∃y,ac=.loop y:=by simp only [O8] at f;split at f;cases f;exact⟨_,rfl⟩;cases f
  obtain⟨y,rfl⟩:=q;exact bR C j i f A λ_ _ _=>rfl
 | rangeFunc g ps x y _ _=>
  intro ac f A;have q:∃a b c d,ac=.rangeFunc a b c d:=by simp only [O8] at f;split at f;cases f;exact⟨_,_,_,_,rfl⟩;cases f
  obtain⟨_,_,_,_,rfl⟩:=q;exact bR C j i f A λ_ _ _=>rfl
 | scope x ihx=>intro ac f;simp only [O8] at f;cases f
 | label l=>intro ac f;simp only [O8] at f;cases f
 | goto l=>intro ac f;simp only [O8] at f;cases f
 | refuse s=>intro ac f _ Q o m K ι w a k O u outs L D E p I v H M;simp only [O8,gB] at f;subst f;have H:(none:Option (List JQ))=some outs:=H;cases H
theorem FX {K:Known}(k:∀f sf,K.fns f=some sf->oO P f sf){cf:D7}(y:lI P G cf)(b:Nat)(g:∀slots nt r,jM P G slots nt cf r):Xx P G (qQ K cf b):=by
 intro f C s m q h;obtain⟨sf,T,h⟩:=z8 h;obtain⟨A,slots,x,c,ac,rs,L,M,N,O,Q,R,S,F,H,I,e4,J⟩:=k f sf T;refine⟨A,λ{ι w} hm hargs hmd=>?_⟩;obtain⟨D,U,h⟩:=z8 h;obtain rfl:=J D U;obtain⟨u,E,h⟩:=z8 h;obtain⟨Z,B,W⟩:=U7 h;rw [F,H] at E;obtain⟨q1,q2,q3⟩:=FT R S hargs E;refine callsDIn_of_wpSIn L M trivial λc₀ t Y=>?_;have e:({c₀ with mode:=wz ι s}:Frame)=c₀:=by rw [← Y]
 rw [← e];refine Rf y b (g slots x.ntmps none) c D N Q _ u m s ι w _ c₀ t (wz ι s) Z hm q2 q3 rfl hmd pU.of B ?_;rintro⟨⟨x₀,env₀,m₀,k₀,pv₀⟩,md₀⟩ ho ι' w' a' u' hst hen' hsz hmk' hpv hmd' hrel';obtain⟨vs,a,o⟩:=W _ ho;have i:k₀=[]∧pv₀=none∧(∀id,x₀≠.exit id)∧∃l,results sf.results env₀ m₀=some l∧vs=[(m₀,md₀)]:=by
  have a:Tp sf.results ⟨⟨x₀,env₀,m₀,k₀,pv₀⟩,md₀⟩=some vs:=a;have p:ob (results sf.results env₀ m₀) (λ_=>some [(m₀,md₀)])=some vs->∃l,results sf.results env₀ m₀=some l∧vs=[(m₀,md₀)]:=by intro h;obtain⟨l,X,h⟩:=z8 h;cases h;exact⟨l,X,rfl⟩
  cases x₀ with
  | exit id=>cases k₀<;>cases pv₀<;>cases a
  | normal=>
   cases k₀ with
   | cons=>cases pv₀<;>cases a
   | nil=>
    cases pv₀ with
    | some=>cases a
    | none=>exact⟨rfl,rfl,(λid h=>by cases h),p a⟩
  | ret=>
   cases k₀ with
   | cons=>cases pv₀<;>cases a
   | nil=>
    cases pv₀ with
    | some=>cases a
    | none=>exact⟨rfl,rfl,(λid h=>by cases h),p a⟩
 obtain⟨rfl,rfl,z,l,d,rfl⟩:=i;rw [I] at d;obtain⟨r1,r2⟩:=vB hst.rm hen' _ rs O l d;have V:a'.defers=[]:=hmk'.1;have n:(Go.results x a'.tmps).run P w'=.ok (l7 ι' (result l)) w':=by rw [FQ,CX,aiL];simp only [J3,map_eq_pure_bind,bind_assoc,pure_bind];rw [r2];simp
 have j:a'.defers=[]∧∃u'',(({c₀ with mode:=u'}:Frame)::t)=({({c₀ with mode:=wz ι s}:Frame) with mode:=u''}:Frame)::t∧∃v,(Go.results x a'.tmps).run P w'=.ok v w'∧
   ∃v',Ending.returned v=.returned v'∧∃r∈q,∃ι',Step P G ι m w ι' r.1 w'∧zq ι' r.1 r.2∧settle u''=wz ι' r.2:=
  ⟨V,u',rfl,_,n,_,rfl,(m₀,md₀),o _ (aA.2 rfl),ι',hst,hmd',hrel'.settle⟩
 cases x₀ with
 | normal=>exact j
 | ret=>exact j
 | exit id=>exact absurd rfl (z id)
end
section
variable {P:Program}{ι ι':H6}{n n':Nm}{r:Nat->Option Nat}
def Al (ι:H6)(n:Nm)(ι':H6)(n':Nm)(r:Nat->Option Nat):Prop:=∀i j,r i=some j->n i->n' j∧ι' j=ι i∧n'.cap j=n.cap i
mutual
theorem nk (hr:Al ι n ι' n' r):∀(v v':d9),dK r v=some v'->v.lt n->l7 ι' v'=l7 ι v∧v'.lt n'
 | .undef,v',h,_ | .bool _,v',h,_ | .int _ _,v',h,_ | .str _,v',h,_ | .nilPtr,v',h,_ | .nilSlice,v',h,_ | .nilMap,v',h,_ | .nilFunc,v',h,_ | .nilIface,v',h,_=>by simp only [dK,gB] at h;subst h;simp [l7,d9.lt]
 | .ptr i o,v',h,hv=>by simp only [dK] at h;obtain⟨j,h1,h2⟩:=z8 h;cases h2;obtain⟨g1,g2,g3⟩:=hr i j h1 hv;exact⟨by simp [l7,H6.at,g2],g1⟩
 | .slice i o l c,v',h,hv=>by simp only [dK] at h;obtain⟨j,h1,h2⟩:=z8 h;cases h2;obtain⟨g1,g2,g3⟩:=hr i j h1 hv;exact⟨by simp [l7,H6.at,g2],g1⟩
 | .sliceU i o l c,v',h,hv=>by simp only [dK] at h;obtain⟨j,h1,h2⟩:=z8 h;cases h2;obtain⟨g1,g2,g3⟩:=hr i j h1 hv.1;exact⟨by simp [l7,H6.at,g2],g1,hv.2.1,by rw [g3];exact hv.2.2⟩
 | .map i,v',h,hv=>by simp only [dK] at h;obtain⟨j,h1,h2⟩:=z8 h;cases h2;obtain⟨g1,g2,g3⟩:=hr i j h1 hv;exact⟨by simp [l7,g2],g1⟩
 | .func fn a b,v',h,hv=>by
  obtain⟨h1,h2,h3⟩:=hv;have key:∀v',(ob (jD r a) λx=>ob (jD r b) λy=>some (d9.func fn x y))=some v'->(∀l,fn≠.yield l)->l7 ι' v'=l7 ι (.func fn a b)∧v'.lt n':=by
   intro v' h hn;obtain⟨x,h4,h⟩:=z8 h;obtain⟨y,h5,h⟩:=z8 h;cases h;obtain⟨g1,g2⟩:=iA hr a x h4 h2;obtain⟨g3,g4⟩:=iA hr b y h5 h3;have e:gZ ι' fn=gZ ι fn:=by cases fn<;>first | rfl | exact absurd rfl (hn _)
   refine⟨by simp [l7,g1,g3,e],?_,g2,g4⟩;cases fn<;>first | trivial | exact absurd rfl (hn _)
  cases fn with
  | yield l=>simp only [dK] at h;cases h
  | func f=>exact key v' (by simpa only [dK] using h) (by simp)
  | method f=>exact key v' (by simpa only [dK] using h) (by simp)
  | methodOf f g=>exact key v' (by simpa only [dK] using h) (by simp)
  | via f g x y=>exact key v' (by simpa only [dK] using h) (by simp)
 | .iface t v,v',h,hv=>by simp only [dK] at h;obtain⟨x,h1,h2⟩:=z8 h;cases h2;obtain⟨g1,g2⟩:=nk hr v x h1 hv;exact⟨by simp [l7,g1],g2⟩
 | .agg l,v',h,hv=>by simp only [dK] at h;obtain⟨x,h1,h2⟩:=z8 h;cases h2;obtain⟨g1,g2⟩:=iA hr l x h1 hv;exact⟨by simp [l7,g1],g2⟩
 | .tuple l,v',h,hv=>by simp only [dK] at h;obtain⟨x,h1,h2⟩:=z8 h;cases h2;obtain⟨g1,g2⟩:=iA hr l x h1 hv;exact⟨by simp [l7,g1],g2⟩
 | .ng v,v',h,hv=>by simp only [d9.lt] at hv
theorem iA (hr:Al ι n ι' n' r):∀(l l':List d9),jD r l=some l'->X0 n l->o9 ι' l'=o9 ι l∧X0 n' l'
 | [],l',h,_=>by simp only [jD,gB] at h;subst h;simp [o9,X0]
 | v::l,l',h,hv=>by simp only [jD] at h;obtain⟨x,h1,h⟩:=z8 h;obtain⟨y,h2,h⟩:=z8 h;cases h;obtain⟨g1,g2⟩:=nk hr v x h1 hv.1;obtain⟨g3,g4⟩:=iA hr l y h2 hv.2;exact⟨by simp [o9,g1,g3],g2,g4⟩
end
theorem Ao (hr:Al ι n ι' n' r):∀(l l':List (List d9)),qP r l=some l'->(∀x∈l,X0 n x)->l'.length=l.length∧∀(i:Nat) x,l[i]?=some x->∃x',l'[i]?=some x'∧o9 ι' x'=o9 ι x∧X0 n' x'
 | [],l',h,_=>by simp only [qP,gB] at h;subst h;simp
 | v::l,l',h,hv=>by
  simp only [qP] at h;obtain⟨x,h1,h⟩:=z8 h;obtain⟨y,h2,h⟩:=z8 h;cases h;obtain⟨g1,g2⟩:=iA hr v x h1 (hv v (by simp));obtain⟨g3,g4⟩:=Ao hr l y h2 (λx hx=>hv x (by simp [hx]));refine⟨by simp [g3],λi u hu=>?_⟩;cases i with
  | zero=>simp at hu;subst hu;exact⟨x,rfl,g1,g2⟩
  | succ i=>obtain⟨x',h3,h4⟩:=g4 i u (by simpa using hu);exact⟨x',by simpa using h3,h4⟩
theorem Db (hr:Al ι n ι' n' r):∀(l l':List (d9×d9)),AU r l=some l'->(∀e∈l,e.1.lt n∧e.2.lt n)->l'.length=l.length∧(∀k,F6 ι' l' k=F6 ι l k)∧∀e∈l',e.1.lt n'∧e.2.lt n'
 | [],l',h,_=>by simp only [AU,gB] at h;subst h;simp [F6]
 | e::l,l',h,hv=>by simp only [AU] at h;obtain⟨x,h1,h⟩:=z8 h;obtain⟨y,h2,h⟩:=z8 h;obtain⟨z,h3,h⟩:=z8 h;cases h;obtain⟨g1,g2⟩:=nk hr e.1 x h1 (hv e (by simp)).1;obtain⟨g3,g4⟩:=nk hr e.2 y h2 (hv e (by simp)).2;obtain⟨g5,g6,g7⟩:=Db hr l z h3 (λx hx=>hv x (by simp [hx]));refine⟨by simp [g5],λk=>by simp [F6,g1,g3,g6],λu hu=>?_⟩;rcases X4.1 hu with rfl | hu;exact⟨g2,g4⟩;exact g7 u hu
theorem Rh {b:N7}{a:NB}(h:AR b=some a):bF b=false:=by cases b<;>first | rfl | (simp [AR] at h)
theorem Dc (a:NB):bF (fZ a)=false:=by cases a<;>rfl
theorem Df {r:Nat->Option Nat}{b:N7}{c a:NB}(h:AR b=some c)(h':nK r c=some a):Q7 (fZ a)=Q7 b:=by
 cases b<;>simp only [AR,gB,reduceCtorEq] at h
 subst h;simp only [nK,gB] at h';subst h';rfl;obtain⟨l,_,h⟩:=z8 h;cases h;simp only [nK] at h';obtain⟨x,_,h'⟩:=z8 h';cases h';rfl;subst h;simp only [nK] at h';obtain⟨x,_,h'⟩:=z8 h';cases h';rfl;subst h;simp only [nK] at h';obtain⟨x,_,h'⟩:=z8 h';cases h';rfl
theorem Ir (D:Al ι n ι' n' r){h:Array Obj}{l:Loc}{b:N7}{I y:NB}(hb:bO P ι n h l b)(p:AR b=some I)(a:nK r I=some y):bO P ι' n' h l (fZ y):=by
 cases b<;>simp only [AR,gB,reduceCtorEq] at p
 subst p;simp only [nK,gB] at a;subst a;exact trivial;rename_i rs k A;obtain⟨z,U,p⟩:=z8 p;cases p;simp only [nK] at a;obtain⟨d,v,a⟩:=z8 a;cases a;obtain⟨c,e,Q,t,u,⟨M,N,Y,Z,_⟩,H⟩:=hb;obtain⟨K,X⟩:=T.Na _ _ _ _ U;have g:∀i x,z[i]?=some x->i<k∧A.get i=some x:=λi x s=>by
  have o:i<k:=by have:=(gq.1 s).1;omega
  have:=X i o;rw [Z8,s] at this;exact⟨o,this⟩
 have C:∀x∈z,X0 n x:=λx s=>by obtain⟨i,o⟩:=aao s;obtain⟨f,m⟩:=g i x o;obtain⟨G,B,E,F,q4⟩:=H i f;rw [m] at B;cases B;exact F
 obtain⟨f,m⟩:=Ao D z d v C;refine⟨c,e,Q,t,u,⟨by rw [I4,f,K];exact M,d.length,(by rw [I4];exact lM _),T.dZ d,by rw [I4];exact su (T.dZ d)⟩,λi o=>?_⟩;rw [I4,f,K] at o;have s:z[i]?=some (z[i]'(by omega)):=gy (by omega);obtain⟨L,B,E,F⟩:=m i _ s;obtain⟨_,S⟩:=g i _ s;obtain⟨G,J,p2,p3,W⟩:=H i o;rw [S] at J;cases J;have w:L.length=rs:=by have:=congrArg List.length E;simp only [Q9] at this;omega
 refine⟨L,by rw [T.aG];exact B,w,F,λj V=>?_⟩;rw [W j V,← V4,← V4,E];subst p;simp only [nK] at a;obtain⟨O,v,a⟩:=z8 a;cases a;obtain⟨t,u⟩:=hb;obtain⟨f,m,R⟩:=Db D _ _ v u;exact⟨by rw [m,f];exact t,R⟩;subst p;simp only [nK] at a;obtain⟨q,v,a⟩:=z8 a;cases a;obtain⟨t,u⟩:=hb;obtain⟨f,m,_⟩:=D _ _ v t;exact⟨f,by rw [m];exact u⟩
mutual
theorem pV {r1 r2:Nat->Option Nat}:∀(v u t:d9),dK r1 v=some u->dK r2 u=some t->dK (λi=>ob (r1 i) r2) v=some t
 | .undef,u,t,h,h' | .bool _,u,t,h,h' | .int _ _,u,t,h,h' | .str _,u,t,h,h' | .nilPtr,u,t,h,h' | .nilSlice,u,t,h,h' | .nilMap,u,t,h,h' | .nilFunc,u,t,h,h' | .nilIface,u,t,h,h'=>by simp only [dK,gB] at h;subst h;simpa only [dK] using h'
 | .ptr i o,u,t,h,h' | .slice i o _ _,u,t,h,h' | .sliceU i o _ _,u,t,h,h' | .map i,u,t,h,h'=>by simp only [dK] at h;obtain⟨j,h1,h2⟩:=z8 h;cases h2;simp only [dK] at h' ⊢;obtain⟨k,h3,h4⟩:=z8 h';rw [h1,K5,h3];exact h4
 | .func fn a b,u,t,h,h'=>by
  cases fn with
  | yield l=>simp only [dK] at h;cases h
  | _=>simp only [dK] at h;obtain⟨x,h1,h⟩:=z8 h;obtain⟨y,h2,h⟩:=z8 h;cases h;simp only [dK] at h' ⊢;obtain⟨x',h3,h'⟩:=z8 h';obtain⟨y',h4,h'⟩:=z8 h';rw [pW a x x' h1 h3,K5,pW b y y' h2 h4];exact h'
 | .iface ty v,u,t,h,h'=>by simp only [dK] at h;obtain⟨x,h1,h⟩:=z8 h;cases h;simp only [dK] at h' ⊢;obtain⟨x',h3,h'⟩:=z8 h';rw [pV v x x' h1 h3];exact h'
 | .ng v,u,t,h,h'=>by simp only [dK] at h;cases h
 | .agg l,u,t,h,h' | .tuple l,u,t,h,h'=>by simp only [dK] at h;obtain⟨x,h1,h⟩:=z8 h;cases h;simp only [dK] at h' ⊢;obtain⟨x',h3,h'⟩:=z8 h';rw [pW l x x' h1 h3];exact h'
theorem pW {r1 r2:Nat->Option Nat}:∀(v u t:List d9),jD r1 v=some u->jD r2 u=some t->jD (λi=>ob (r1 i) r2) v=some t
 | [],u,t,h,h'=>by simp only [jD,gB] at h;subst h;simpa only [jD] using h'
 | v::l,u,t,h,h'=>by simp only [jD] at h;obtain⟨x,h1,h⟩:=z8 h;obtain⟨y,h2,h⟩:=z8 h;cases h;simp only [jD] at h' ⊢;obtain⟨x',h3,h'⟩:=z8 h';obtain⟨y',h4,h'⟩:=z8 h';rw [pV v x x' h1 h3,K5,pW l y y' h2 h4];exact h'
end
theorem Dg {r1 r2:Nat->Option Nat}:∀(v u t:List (List d9)),qP r1 v=some u->qP r2 u=some t->qP (λi=>ob (r1 i) r2) v=some t
 | [],u,t,h,h'=>by simp only [qP,gB] at h;subst h;simpa only [qP] using h'
 | v::l,u,t,h,h'=>by simp only [qP] at h;obtain⟨x,h1,h⟩:=z8 h;obtain⟨y,h2,h⟩:=z8 h;cases h;simp only [qP] at h' ⊢;obtain⟨x',h3,h'⟩:=z8 h';obtain⟨y',h4,h'⟩:=z8 h';rw [pW v x x' h1 h3,K5,Dg l y y' h2 h4];exact h'
theorem FY {r1 r2:Nat->Option Nat}:∀(v u t:List (d9×d9)),AU r1 v=some u->AU r2 u=some t->AU (λi=>ob (r1 i) r2) v=some t
 | [],u,t,h,h'=>by simp only [AU,gB] at h;subst h;simpa only [AU] using h'
 | e::l,u,t,h,h'=>by simp only [AU] at h;obtain⟨x,h1,h⟩:=z8 h;obtain⟨y,h2,h⟩:=z8 h;obtain⟨z,h3,h⟩:=z8 h;cases h;simp only [AU] at h' ⊢;obtain⟨x',h4,h'⟩:=z8 h';obtain⟨y',h5,h'⟩:=z8 h';obtain⟨z',h6,h'⟩:=z8 h';rw [pV e.1 x x' h1 h4,K5,pV e.2 y y' h2 h5,K5,FY l z z' h3 h6];exact h'
theorem Ri {d e:Nat->Option Nat}{v u t:NB}(h:nK d v=some u)(h':nK e u=some t):nK (λi=>ob (d i) e) v=some t:=by
 cases v<;>simp only [nK] at h
 obtain⟨x,a,h⟩:=z8 h;cases h;simp only [nK] at h' ⊢;obtain⟨c,b,h'⟩:=z8 h';rw [Dg _ x c a b];exact h';obtain⟨x,a,h⟩:=z8 h;cases h;simp only [nK] at h' ⊢;obtain⟨c,b,h'⟩:=z8 h';rw [FY _ x c a b];exact h';obtain⟨x,a,h⟩:=z8 h;cases h;simp only [nK] at h' ⊢;obtain⟨c,b,h'⟩:=z8 h';rw [a,K5,b];exact h';cases h;exact h'
theorem um {r:Nat->Option Nat}:∀(l l':List NB),uT r l=some l'->l'.length=l.length∧∀(i:Nat) x,l'[i]?=some x->∃y,l[i]?=some y∧nK r y=some x
 | [],l',h=>by simp only [uT,gB] at h;subst h;simp
 | v::l,l',h=>by
  simp only [uT] at h;obtain⟨x,h1,h⟩:=z8 h;obtain⟨y,h2,h⟩:=z8 h;cases h;obtain⟨g1,g2⟩:=um l y h2;refine⟨by simp [g1],λi u hu=>?_⟩;cases i with
  | zero=>simp at hu;subst hu;exact⟨v,rfl,h1⟩
  | succ i=>obtain⟨z,h3,h4⟩:=g2 i u (by simpa using hu);exact⟨z,by simpa using h3,h4⟩
mutual
theorem Bz (lo:Nat):∀(v:d9),∀i∈Ew lo v,lo<=i
 | .ptr i _,j,h | .slice i _ _ _,j,h | .sliceU i _ _ _,j,h | .map i,j,h=>by
  simp only [Ew] at h;cases hb:Nat.ble lo i with
  | true=>rw [hb] at h;obtain rfl:=aA.1 h;exact K9 hb
  | false=>rw [hb] at h;cases h
 | .func fn a b,j,h=>by simp only [Ew] at h;rcases Z5.1 h with h | h;exact uo lo a j h;exact uo lo b j h
 | .iface _ v,j,h=>by simp only [Ew] at h;exact Bz lo v j h
 | .agg l,j,h | .tuple l,j,h=>by simp only [Ew] at h;exact uo lo l j h
 | .undef,j,h | .bool _,j,h | .int _ _,j,h | .str _,j,h | .nilPtr,j,h | .nilSlice,j,h | .nilMap,j,h | .nilFunc,j,h | .nilIface,j,h | .ng _,j,h=>by simp only [Ew] at h;cases h
theorem uo (lo:Nat):∀(l:List d9),∀i∈vR lo l,lo<=i
 | [],j,h=>by simp only [vR] at h;cases h
 | v::l,j,h=>by simp only [vR] at h;rcases Z5.1 h with h | h;exact Bz lo v j h;exact uo lo l j h
end
theorem KY (lo:Nat):∀(l:List (List d9)),∀i∈JN lo l,lo<=i
 | [],j,h=>by simp only [JN] at h;cases h
 | v::l,j,h=>by simp only [JN] at h;rcases Z5.1 h with h | h;exact uo lo v j h;exact KY lo l j h
theorem Pb (lo:Nat):∀(l:List (d9×d9)),∀i∈Tm lo l,lo<=i
 | [],j,h=>by simp only [Tm] at h;cases h
 | e::l,j,h=>by simp only [Tm] at h;rcases Z5.1 h with h | h;exact Bz lo _ j h;rcases Z5.1 h with h | h;exact Bz lo _ j h;exact Pb lo l j h
theorem XI (lo:Nat)(b:NB):∀i∈Xi lo b,lo<=i:=by
 intro i h;cases b with
 | cells rs rows=>exact KY lo rows i h
 | map es=>exact Pb lo es i h
 | tail p=>
  simp only [Xi] at h;cases hb:Nat.ble lo p with
  | true=>rw [hb] at h;obtain rfl:=aA.1 h;exact K9 hb
  | false=>rw [hb] at h;cases h
 | dead=>cases h
def Good (m:Mem)(lo:Nat)(l:List (Nat×NB)):Prop:=(∀p∈l,lo<=p.1∧∃b,m.get p.1=some b∧AR b=some p.2)∧(l.map (·.1)).Nodup
theorem Dh (n:Nat):∀l:List (Nat×NB),JO n l=true∨n∉l.map (·.1)
 | []=>.inr (by simp)
 | x::l=>by
  show bi (Nat.beq x.1 n) true (JO n l)=true∨_;cases hb:Nat.beq x.1 n with
  | true=>exact .inl rfl
  | false=>rcases Dh n l with h | h;exact .inl h;refine .inr λhm=>?_;rcases X4.1 (by simpa using hm:n∈x.1::l.map (·.1)) with h1 | h1;rw [h1,aat] at hb;cases hb;exact h h1
theorem NK {m:Mem}{lo:Nat}:∀(k:Nat) (work:List Nat) (seen out:List (Nat×NB)),(∀i∈work,lo<=i)->Good m lo seen->reach m lo k work seen=some out->Good m lo out:=by
 intro k;induction k with
 | zero=>intro work seen out _ _ h;cases h
 | succ k ih=>
  intro work seen out f c h;cases work with
  | nil=>have h:some seen.reverse=some out:=h;cases h;exact⟨λp d=>c.1 p (aiO.1 d),by rw [List.map_reverse];exact List.pairwise_reverse.2 (c.2.imp λh e=>h e.symm)⟩
  | cons i work=>
   have h:bi (JO i seen) (reach m lo k work seen) (ob (m.get i) λb=>ob (AR b) λg=>reach m lo k (Xi lo g++work) ((i,g)::seen))=some out:=h;rcases Dh i seen with h1 | h1;rw [h1] at h;exact ih work seen out (λj a=>f j (by simp [a])) c h;cases hb:JO i seen with
   | true=>rw [hb] at h;exact ih work seen out (λj a=>f j (by simp [a])) c h
   | false=>rw [hb] at h;obtain⟨b,l,h⟩:=z8 h;obtain⟨g,n,h⟩:=z8 h;refine ih _ _ out (λj a=>?_) ⟨λp d=>?_,?_⟩ h;rcases Z5.1 a with a | a;exact XI lo g j a;exact f j (by simp [a]);rcases X4.1 d with rfl | d;exact⟨f i (by simp),b,l,n⟩;exact c.1 p d;rw [Y6];exact aew.2 ⟨h1,c.2⟩
theorem yu (i:Nat):∀(l:List Nat) (k j:Nat),placeOf i l k=some j->k<=j∧l[j-k]?=some i
 | [],k,j,h=>by cases h
 | x::l,k,j,h=>by
  have h:bi (Nat.beq x i) (some k) (placeOf i l (k+1))=some j:=h;cases hb:Nat.beq x i with
  | true=>rw [hb] at h;cases h;rw [aP hb];simp
  | false=>rw [hb] at h;obtain⟨h1,h2⟩:=yu i l (k+1) j h;exact⟨by omega,by rw [show j-k=(j-(k+1))+1 from by omega];simpa using h2⟩
theorem FZ {lo i j:Nat}{a:List Nat}(h:yT lo a i=some j):(i<lo∧j=i)∨(lo<=i∧lo<=j∧a[j-lo]?=some i):=by
 unfold yT at h;cases hb:Nat.ble lo i with
 | true=>rw [hb] at h;obtain⟨b,c⟩:=yu i a lo j h;exact .inr ⟨K9 hb,b,c⟩
 | false=>rw [hb] at h;have h:some i=some j:=h;cases h;exact .inl ⟨Nat.lt_of_not_le (FE hb),rfl⟩
theorem qK {m:Mem}{lo:Nat}{a:List d9}{c:CO}(h:jS lo a m=some c):∃seen,Good m lo seen∧c.ids=seen.map (·.1)∧jD (yT lo c.ids) a=some c.vs∧uT (yT lo c.ids) (seen.map (·.2))=some c.bs:=by obtain⟨seen,b,h⟩:=z8 h;obtain⟨f,d,h⟩:=z8 h;obtain⟨bs,e,h⟩:=z8 h;cases h;exact⟨seen,NK _ _ _ _ (uo lo a) ⟨(λp (hp:p∈([]:List (Nat×NB)))=>by cases hp),(by simp:(([]:List (Nat×NB)).map (·.1)).Nodup)⟩ b,rfl,d,e⟩
theorem KZ (b:NB)(a:List NB)(m:Mem):layAll (b::a) m=layAll a (m.new (fZ b)):=rfl
theorem oo:∀(bs:List NB) (m:Mem),T.Ok m.t m.nx->T.Ok (layAll bs m).t (layAll bs m).nx∧(layAll bs m).nx=m.nx+bs.length∧(layAll bs m).lim=m.lim∧
  ∀i,(layAll bs m).get i=if i<m.nx then m.get i else (bs[i-m.nx]?).map fZ
 | [],m,h=>by
  refine⟨h,rfl,rfl,λi=>?_⟩;show m.get i=_;split;rfl;rename_i hi;cases hg:m.get i with
  | none=>simp
  | some x=>exact absurd (Mem.F9 h hg) hi
 | b::bs,m,h=>by obtain⟨h1,h2,h3,h4⟩:=oo bs (m.new (fZ b)) (h.push _);rw [KZ];refine⟨h1,by rw [h2];simp;omega,h3,λi=>?_⟩;rw [h4,Mem.JZ,Mem.J9 h];by_cases hi:i<m.nx;rw [if_pos (by omega),if_neg (by omega),if_pos hi];by_cases he:i=m.nx;subst he;rw [if_pos (by omega),if_pos rfl,if_neg (by omega)];simp;rw [if_neg (by omega),if_neg hi,show i-m.nx=(i-(m.nx+1))+1 from by omega];simp
end
section
variable {P:Program}{G:Mem}{ι:H6}{m:Mem}{w:World}
structure Di (G:Mem)(BI:List NB):Prop where
 ok:T.Ok G.t G.nx
 len:BI.length=G.nx
 get:∀i,i<G.nx->G.get i=(BI[i]?).map fZ
 shut:∀nb∈BI,nK (λi=>bi (Nat.blt i G.nx) (some i) none) nb=some nb
noncomputable abbrev R5 (G:Mem)(bs:List NB):Mem:=(layAll bs G).shut
def jh (P:Program)(G:Mem)(f:FuncId)(args:List d9)(bs:List NB)(a:AV):Prop:=
 ∀(ι:H6) (w:World),RM P G ι (R5 G bs) w.heap->X0 ((R5 G bs).nm ι) args->
  CallsIn Fence.wide 0 P f (o9 ι args).toArray w λe w'=>∃ι' r,Step P G ι (R5 G bs) w ι' r.m w'∧r.v.lt (r.m.nm ι')∧e=.returned (l7 ι' r.v)∧zV (layAll bs G).nx r=some a
theorem Ap:∀a b:List (List d9),yU a b=true->a=b
 | [],[],_=>rfl
 | [],_ :: _,h=>by simp only [yU] at h;cases h
 | _ :: _,[],h=>by simp only [yU] at h;cases h
 | x::a,y::b,h=>by simp only [yU] at h;obtain⟨h1,h2⟩:=bG h;rw [jN (iw 100) _ _ h1,Ap a b h2]
theorem Dj:∀a b:List (d9×d9),Fp a b=true->a=b
 | [],[],_=>rfl
 | [],_ :: _,h=>by simp only [Fp] at h;cases h
 | _ :: _,[],h=>by simp only [Fp] at h;cases h
 | x::a,y::b,h=>by simp only [Fp] at h;obtain⟨h1,h2⟩:=bG h;obtain⟨h2,h3⟩:=bG h2;have e1:=iw 100 _ _ h1;have e2:=iw 100 _ _ h2;obtain⟨x1,x2⟩:=x;obtain⟨y1,y2⟩:=y;have e1:x1=y1:=e1;have e2:x2=y2:=e2;rw [e1,e2,Dj a b h3]
theorem NM:∀a b:NB,Tn a b=true->a=b:=by
 intro a b h;cases a<;>cases b<;>simp only [Tn] at h<;>first | (cases h;done) | skip
 obtain⟨c,d⟩:=bG h;rw [aP c,Ap _ _ d];rw [Dj _ _ h];rw [aP h];rfl
theorem ou:∀a b:List NB,jE a b=true->a=b
 | [],[],_=>rfl
 | [],_ :: _,h=>by simp only [jE] at h;cases h
 | _ :: _,[],h=>by simp only [jE] at h;cases h
 | x::a,y::b,h=>by simp only [jE] at h;obtain⟨h1,h2⟩:=bG h;rw [NM _ _ h1,ou a b h2]
theorem sZ {lo:Nat}:∀(l:List VM) (a:AV),Hg lo l=some a->∀r∈l,zV lo r=some a
 | [],a,h,r,hr=>by cases hr
 | [x],a,h,r,hr=>by obtain rfl:=aA.1 hr;obtain⟨b,h1,h2⟩:=z8 h;have h2:some b=some a:=h2;cases h2;exact h1
 | x::y::l,a,h,r,hr=>by obtain⟨b,h1,h2⟩:=z8 h;have h2:(ob (Hg lo (y::l)) λc=>bi (dz 100 b.v c.v) (bi (jE b.bs c.bs) (some b) none) none)=some a:=h2;obtain⟨c,h3,h2⟩:=z8 h2;obtain⟨h4,h2⟩:=D5 h2;obtain⟨h5,h2⟩:=D5 h2;have h2:some b=some a:=h2;cases h2;rcases X4.1 hr with rfl | hr;exact h1;have:=sZ (y::l) c h3 r hr;rw [this];have e1:=iw 100 _ _ h4;have e2:=ou _ _ h5;obtain⟨av,ab⟩:=a;obtain⟨cv,cb⟩:=c;have e1:av=cv:=e1;have e2:ab=cb:=e2;rw [e1,e2]
theorem NN {cf:D7}(i:lI P G cf){g:iR}(o:Xx P G g)(j:P.follows .mixedOrders=true)(b:Nat){f:FuncId}{sf:M9}(z:oO P f sf){args:List d9}{k:List NB}{a:AV}
  (h:(ob (ko cf g b sf args (R5 G k)) λl=>Hg (layAll k G).nx l)=some a):jh P G f args k a:=by
 intro ι w A c;obtain⟨l,t,p⟩:=z8 h;refine (KH i o b (λd B r=>ni j i d B r) z t A c).mono ?_;rintro e w' (⟨v,rfl,r,hr,ι',g1,g2,rfl⟩ | ⟨r,hr,x,ι',hx,_⟩);exact⟨ι',r,g1,g2,rfl,sZ l a p r hr⟩;exfalso;have u:=sZ l a p r hr;obtain⟨C,n,_⟩:=z8 u;obtain⟨s,_,_,m,_⟩:=qK n;rw [hx] at m;simp only [jD] at m;obtain⟨y,q,_⟩:=z8 m;simp only [dK] at q;cases q
theorem Iu {α:Type}(l:List α):(T.ofList l).slice l.length 0=some l:=by
 have a:∀(k i:Nat),i+k=l.length->(T.ofList l).slice k i=some (l.drop i):=by
  intro k;induction k with
  | zero=>intro i h;rw [T.Cg,ac6 (by omega)]
  | succ k ih=>
   intro i h;have b:i<l.length:=by omega
   rw [T.Ch,T.aG,gy b,K5,ih (i+1) (by omega),K5,List.getElem_cons_drop]
 exact a l.length 0 (by omega)
theorem NP (nb:NB):AR (fZ nb)=some nb:=by
 cases nb with
 | cells rs rows=>show (ob ((T.ofList rows).slice (len' rows) 0) λl=>some (NB.cells rs l))=_;rw [I4,Iu];rfl
 | map es=>rfl
 | tail p=>rfl
 | dead=>rfl
def dQ (g:Nat)(ι:H6)(ids:List Nat):H6:=λi=>if i<g then ι i else ι (ids.getD (i-g) 0)
theorem XJ (J:∃BI,Di G BI)(u:RM P G ι m w.heap){Q:List d9}{c:CO}(hc:jS G.nx Q m=some c)(V:X0 (m.nm ι) Q):
  RM P G (dQ G.nx ι c.ids) (R5 G c.bs) w.heap∧X0 ((R5 G c.bs).nm (dQ G.nx ι c.ids)) c.vs∧o9 (dQ G.nx ι c.ids) c.vs=o9 ι Q∧c.bs.length=c.ids.length∧
   (∀(k i:Nat),c.ids[k]?=some i->G.nx<=i∧m.has i)∧(∀i,G.nx<=i->i<(R5 G c.bs).nx->∃j,c.ids[i-G.nx]?=some j):=by
 obtain⟨BI,J⟩:=J;obtain⟨N,⟨S,a0⟩,r,O,h4⟩:=qK hc;obtain⟨Z,l2,l3,l4⟩:=oo c.bs G J.ok;obtain⟨b1,b2⟩:=um _ _ h4;have B:c.bs.length=c.ids.length:=by rw [b1,r];simp
 have h:∀(k i:Nat),c.ids[k]?=some i->G.nx<=i∧∃b z nb',m.get i=some b∧AR b=some z∧c.bs[k]?=some nb'∧nK (yT G.nx c.ids) z=some nb':=by
  intro k i n;rw [r,aas] at n;cases hp:N[k]? with
  | none=>rw [hp] at n;cases n
  | some p=>
   rw [hp] at n;have n:p.1=i:=Xl n;obtain⟨C,b,D,A⟩:=S p (U9 hp);rw [n] at C D;have L:k<c.bs.length:=by rw [B,r,aev];exact (gq.1 hp).1
   obtain⟨y,E,q5⟩:=b2 k _ (gy L);rw [aas,hp] at E;have E:p.2=y:=Xl E;rw [← E] at q5;exact⟨C,b,p.2,_,D,A,gy L,q5⟩
 have f:∀i,(R5 G c.bs).get i=if i<G.nx then G.get i else (c.bs[i-G.nx]?).map fZ:=l4
 have v:(R5 G c.bs).nx=G.nx+c.bs.length:=l2;have d:∀i,i<G.nx->m.get i=G.get i:=u.base;have F:∀k i,c.ids[k]?=some i->dQ G.nx ι c.ids (G.nx+k)=ι i:=by intro k i n;unfold dQ;rw [if_neg (by omega),show G.nx+k-G.nx=k from by omega,X6,n];rfl
 have o:∀i,i<G.nx->dQ G.nx ι c.ids i=ι i:=λi g=>if_pos g;have Y:Al ι (m.nm ι) (dQ G.nx ι c.ids) ((R5 G c.bs).nm (dQ G.nx ι c.ids)) (yT G.nx c.ids):=by intro i j s ⟨y,hy,hyv⟩;rcases FZ s with⟨l,rfl⟩ | ⟨l,I,O⟩;refine⟨⟨y,?_,hyv⟩,o _ l,congrArg Loc.cap (o _ l)⟩;rw [f,if_pos l,← d _ l];exact hy;have e:=F (j-G.nx) i O;rw [show G.nx+(j-G.nx)=j from by omega] at e;obtain⟨_,_,_,nb',_,_,q,_⟩:=h (j-G.nx) i O;refine⟨⟨fZ nb',?_,Dc nb'⟩,e,congrArg Loc.cap e⟩;rw [f,if_neg (by omega),q];rfl
 have U:Al ι (m.nm ι) (dQ G.nx ι c.ids) ((R5 G c.bs).nm (dQ G.nx ι c.ids)) (λi=>bi (Nat.blt i G.nx) (some i) none):=by intro i j s ⟨y,hy,hyv⟩;have s:bi (Nat.blt i G.nx) (some i) none=some j:=s;obtain⟨l,I⟩:=D5 s;cases I;have l:i<G.nx:=Eq.mp Xb l;refine⟨⟨y,?_,hyv⟩,o _ l,congrArg Loc.cap (o _ l)⟩;rw [f,if_pos l,← d _ l];exact hy
 obtain⟨v1,v2⟩:=iA Y Q c.vs O V;have H:∀i x,(R5 G c.bs).get i=some x->Q7 x=true->(dQ G.nx ι c.ids i).spot=none:=by
  intro i b a M;rw [f] at a;split at a;rename_i g;rw [o i g];exact u.spot i b (by rw [d i g];exact a) M;rename_i g;cases hnb:c.bs[i-G.nx]? with
  | none=>rw [hnb] at a;cases a
  | some z=>
   rw [hnb] at a;have a:fZ z=b:=Xl a;subst a;have n:i-G.nx<c.ids.length:=by have:=(gq.1 hnb).1;omega
   have t:=gy n;obtain⟨_,bb,X,nb',C,D,A,E⟩:=h _ _ t;rw [hnb] at A;cases A;have e:=F (i-G.nx) _ t;rw [show G.nx+(i-G.nx)=i from by omega] at e;rw [e];exact u.spot _ _ C (by rw [← Df D E];exact M)
 refine⟨⟨Z,?_,λi x g W=>?_,?_,lM _,u.gle,λi g=>by rw [f,if_pos g],λi g=>?_,λi g=>?_,λi x W hl=>?_,u.gsz⟩,v2,v1,B,λk i n=>?_,λi l I=>?_⟩;intro i b a;rw [f] at a;split at a;rename_i g;rw [o i g];have T:m.get i=some b:=by rw [d i g];exact a
 have R:=u.blk i b T;rw [J.get i g] at a;cases hnb:BI[i]? with
 | none=>rw [hnb] at a;cases a
 | some z=>rw [hnb] at a;have a:fZ z=b:=Xl a;subst a;exact Ir U R (NP z) (J.shut z (U9 hnb))
 rename_i g;cases hnb:c.bs[i-G.nx]? with
 | none=>rw [hnb] at a;cases a
 | some z=>
  rw [hnb] at a;have a:fZ z=b:=Xl a;subst a;have n:i-G.nx<c.ids.length:=by have:=(gq.1 hnb).1;omega
  have t:=gy n;obtain⟨_,bb,X,nb',C,D,A,E⟩:=h _ _ t;rw [hnb] at A;cases A;have e:=F (i-G.nx) _ t;rw [show G.nx+(i-G.nx)=i from by omega] at e;rw [e];exact Ir Y (u.blk _ _ C) D E
 have:=Mem.F9 (m:=R5 G c.bs) Z W;have g:(R5 G c.bs).nx<=i:=g;omega;show G.nx<=(R5 G c.bs).nx;rw [v];omega;obtain⟨y,l,I⟩:=u.ghas i g;have K:i<G.nx:=q9 g u.gle;exact⟨y,by rw [f,if_pos K,← d i K];exact l,I⟩;rw [o i (q9 g u.gle)];exact u.glob i g;exact H i x W hl;obtain⟨C,b,z,_,D,A,_⟩:=h k i n;exact⟨C,b,D,Rh A⟩;rw [v] at I;exact⟨_,gy (by omega)⟩
def dF (next:Nat)(ι ι2:H6)(ids:List Nat):H6:=λi=>if i<next then ι i else ι2 (ids.getD (i-next) 0)
theorem Aq {g b i j:Nat}{a:List Nat}(h:kN g a b i=some j):
  (i<g∧j=i)∨(g<=i∧i-g<a.length∧a[i-g]?=some j)∨(g+a.length<=i∧j=b+(i-g-a.length)):=by
 unfold kN at h;rw [I4] at h;cases c:Nat.blt i g with
 | true=>rw [c] at h;have h:some i=some j:=h;cases h;exact .inl ⟨Eq.mp Xb c,rfl⟩
 | false=>
  rw [c] at h;have c:=iI c;cases d:Nat.blt (Nat.sub i g) a.length with
  | true=>rw [d] at h;have h:pq (i-g) a=some j:=h;rw [gW] at h;exact .inr (.inl ⟨c,Eq.mp Xb d,h⟩)
  | false=>rw [d] at h;have d:a.length<=i-g:=iI d;have h:some (b+(i-g-a.length))=some j:=h;cases h;exact .inr (.inr ⟨by omega,rfl⟩)
theorem La (hB:∃BI,Di G BI){f:FuncId}{args:List d9}{c:CO}{a:AV}{v:d9}{F:List NB}(E:RM P G ι m w.heap)(a2:X0 (m.nm ι) args)(hc:jS G.nx args m=some c)(ha:jh P G f c.vs c.bs a)
  (hv:dK (kN G.nx c.ids m.nx) a.v=some v) (ag:uT (kN G.nx c.ids m.nx) a.bs=some F):
  CallsIn Fence.wide 0 P f (o9 ι args).toArray w (O0 P G ι m w [⟨v,layAll F m⟩]):=by
 have a5:T.Ok G.t G.nx:=by obtain⟨BI,hB⟩:=hB;exact hB.ok
 obtain⟨ab,X,a3,a9,a6,ao⟩:=XJ hB E hc a2;have N:=ha (dQ G.nx ι c.ids) w ab X;rw [a3] at N;refine N.mono ?_;rintro e w' ⟨ι2,r,hst,hrv,rfl,C⟩;obtain⟨g,ah,C⟩:=z8 C;obtain⟨ad,⟨ai,aj⟩,R,J,Y⟩:=qK ah;have an:∃u,g.vs=[u]∧dK (yT (layAll c.bs G).nx g.ids) r.v=some u:=by simp only [jD] at J;obtain⟨x,W,J⟩:=z8 J;obtain⟨y,h6,J⟩:=z8 J;cases h6;have J:some [x]=some g.vs:=J;exact⟨x,(Xl J).symm,W⟩
 obtain⟨u,hu,am⟩:=an;rw [hu] at C;have C:some (⟨u,g.bs⟩:AV)=some a:=C;cases C;obtain⟨b1,b2⟩:=um _ _ Y;obtain⟨b3,b4⟩:=um _ _ ag;obtain⟨l1,l2,l3,l4⟩:=oo c.bs G a5;obtain⟨k1,k2,k3,k4⟩:=oo F m E.ok;have au:(R5 G c.bs).lim=(layAll c.bs G).nx:=rfl;have ae:(layAll c.bs G).nx=G.nx+c.ids.length:=by rw [l2,a9]
 have ac:∀b,¬ JX (dQ G.nx ι c.ids) (R5 G c.bs) b:=by rintro b ⟨i,x,B,A,_,_⟩;have:=Mem.F9 (m:=R5 G c.bs) ab.ok A;have B:(R5 G c.bs).nx<=i:=B;omega
 have K:∀b,b<w.heap.size->w'.heap[b]?=w.heap[b]?:=λb hb=>hst.frame b hb (ac b);have s:∀i x,(layAll c.bs G).nx<=i->r.m.get i=some x->Q7 x=true->w.heap.size<=(ι2 i).b:=by intro i x B A L;rcases hst.own _ ⟨i,x,by rw [hst.lim];exact B,A,L,rfl⟩ with h | h;exact absurd h (ac _);exact h
 have V:∀(k i:Nat),g.ids[k]?=some i->(layAll c.bs G).nx<=i∧∃b nb nb',r.m.get i=some b∧AR b=some nb∧F[k]?=some nb'∧
   nK (λi=>ob (yT (layAll c.bs G).nx g.ids i) (kN G.nx c.ids m.nx)) nb=some nb':=by
  intro k i M;have ar:=M;rw [R,aas] at M;cases hp:ad[k]? with
  | none=>rw [hp] at M;cases M
  | some p=>
   rw [hp] at M;have M:p.1=i:=Xl M;obtain⟨q1,b,q2,q3⟩:=ai p (U9 hp);rw [M] at q1 q2;have a4:k<g.bs.length:=by rw [b1,aev];exact (gq.1 hp).1
   have Z:k<F.length:=by rw [b3];exact a4
   obtain⟨y,q4,q5⟩:=b2 k _ (gy a4);obtain⟨z,q6,q7⟩:=b4 k _ (gy Z);have q6:g.bs[k]?=some z:=q6;rw [gy a4] at q6;cases q6;rw [aas,hp] at q4;have q4:p.2=y:=Xl q4;rw [← q4] at q5;exact⟨q1,b,p.2,_,q2,q3,gy Z,Ri q5 q7⟩
 have aq:F.length=g.ids.length:=by rw [b3];show g.bs.length=_;rw [b1,R];simp
 have H:∀i,(layAll F m).get i=if i<m.nx then m.get i else (F[i-m.nx]?).map fZ:=k4
 have d:∀i,i<m.nx->dF m.nx ι ι2 g.ids i=ι i:=λi B=>if_pos B;have o:∀k i,g.ids[k]?=some i->dF m.nx ι ι2 g.ids (m.nx+k)=ι2 i:=by intro k i M;unfold dF;rw [if_neg (by omega),show m.nx+k-m.nx=k from by omega,X6,M];rfl
 have aa:∀i x,m.get i=some x->i<m.nx:=λi x A=>Mem.F9 E.ok A;have I:∀i,m.has i->(layAll F m).has i:=λi ⟨x,h1,h2⟩=>⟨x,by rw [H,if_pos (aa i x h1)];exact h1,h2⟩;have D:∀i,m.has i->dF m.nx ι ι2 g.ids i=ι i:=λi ⟨x,h1,_⟩=>d i (aa i x h1);have ap:G.nx<=m.nx:=J2 E.glim E.limn;have hr:Al ι2 (r.m.nm ι2) (dF m.nx ι ι2 g.ids) ((layAll F m).nm (dF m.nx ι ι2 g.ids)) (λi=>ob (yT (layAll c.bs G).nx g.ids i) (kN G.nx c.ids m.nx)):=by
  intro i j ak ⟨y,hy,hyv⟩;obtain⟨t,W,h6⟩:=z8 ak;have a1:(layAll F m).has j∧dF m.nx ι ι2 g.ids j=ι2 i->((layAll F m).nm (dF m.nx ι ι2 g.ids)) j∧dF m.nx ι ι2 g.ids j=ι2 i∧((layAll F m).nm (dF m.nx ι ι2 g.ids)).cap j=(r.m.nm ι2).cap i:=
   λ⟨p,q⟩=>⟨p,q,congrArg Loc.cap q⟩
  rcases FZ W with⟨h7,rfl⟩ | ⟨h7,h8,h9⟩
  ·
   have O:(R5 G c.bs).get t=some y:=by rw [← hst.old t h7];exact hy
   have a0:ι2 t=dQ G.nx ι c.ids t:=hst.ext t ⟨y,O,hyv⟩;rcases Aq h6 with⟨h10,rfl⟩ | ⟨h10,h11,h12⟩ | ⟨h10,_⟩;have U:m.has j:=by
    refine⟨y,?_,hyv⟩;have af:(R5 G c.bs).get j=if j<G.nx then G.get j else (c.bs[j-G.nx]?).map fZ:=l4 j
    rw [af,if_pos h10] at O;rw [E.base j h10];exact O
   exact a1 ⟨I j U,by rw [D j U,a0];exact (if_pos h10).symm⟩;obtain⟨_,U⟩:=a6 _ _ h12;refine a1 ⟨I j U,?_⟩;rw [D j U,a0];unfold dQ;rw [if_neg (by omega),X6,h12];rfl;omega
  ·
   rcases Aq h6 with⟨h10,_⟩ | ⟨h10,h11,_⟩ | ⟨h10,rfl⟩;omega;omega;have e:t-G.nx-c.ids.length=t-(layAll c.bs G).nx:=by omega
   obtain⟨_,_,_,nb',_,_,q,_⟩:=V _ _ h9;refine a1 ⟨⟨fZ nb',?_,Dc nb'⟩,by rw [e];exact o _ _ h9⟩;rw [e,H,if_neg (by omega),show m.nx+(t-(layAll c.bs G).nx)-m.nx=t-(layAll c.bs G).nx from by omega,q];rfl
 obtain⟨v1,v2⟩:=nk hr r.v v (pV _ _ _ am hv) hrv;have l:∀i x,(layAll F m).get i=some x->(i<m.nx∧m.get i=some x)∨∃k id b,i=m.nx+k∧g.ids[k]?=some id∧r.m.get id=some b∧(layAll c.bs G).nx<=id∧Q7 x=Q7 b∧
   bO P (dF m.nx ι ι2 g.ids) ((layAll F m).nm (dF m.nx ι ι2 g.ids)) w'.heap (ι2 id) x:=by
  intro i x A;rw [H] at A;split at A;exact .inl ⟨by assumption,A⟩;rename_i B;cases hnb:F[i-m.nx]? with
  | none=>rw [hnb] at A;cases A
  | some nb=>
   rw [hnb] at A;have A:fZ nb=x:=Xl A;subst A;have M:i-m.nx<g.ids.length:=by have:=(gq.1 hnb).1;omega
   have a7:=gy M;obtain⟨q0,b,av,nb',q1,q2,q3,q4⟩:=V _ _ a7;rw [hnb] at q3;cases q3;exact .inr ⟨i-m.nx,_,b,by omega,a7,q1,q0,Df q2 q4,Ir hr (hst.rm.blk _ _ q1) q2 q4⟩
 refine .inl ⟨l7 ι2 r.v,rfl,⟨v,layAll F m⟩,aA.2 rfl,dF m.nx ι ι2 g.ids,?_,v2,v1.symm⟩;refine⟨⟨k1,?_,?_,by rw [k3];exact E.glim,by rw [k3,k2];exact J2 E.limn (by omega),E.gle,λi B=>by rw [H,if_pos (by omega)];exact E.base i B,λi B=>I i (E.ghas i B),
  λi B=>by rw [D i (E.ghas i B)];exact E.glob i B,λi x A L=>by
   rcases l i x A with⟨h1,h2⟩ | ⟨k,id,b,rfl,h2,J,_,W,_⟩;rw [d i h1];exact E.spot i x h2 L;rw [o k id h2];exact hst.rm.spot id b J (by rw [← W];exact L),hst.rm.gsz⟩,D,I,by rw [k2];omega,k3,λi B=>by rw [H,if_pos (by have:=E.limn;omega)],hst.size,λb hb _=>K b hb,?_,hst.os,hst.out,hst.tape⟩
 intro i x A;rcases l i x A with⟨h1,h2⟩ | ⟨k,id,b,rfl,h2,J,_,_,Y⟩;rw [d i h1];exact (E.blk i x h2).mono (n:=m.nm ι) D (Mem.U2 I D) λL=>K _ (dB (E.blk i x h2) L);rw [o k id h2];exact Y;intro i x B A L;rw [k3] at B;rcases l i x A with⟨h1,h2⟩ | ⟨k,id,b,rfl,h2,J,Y,W,h6⟩;have ho:=E.own i x B h2 L;have hb:=dB (E.blk i x h2) L;refine⟨λj y hj hy S=>?_,λc e fz Q=>?_⟩;rcases l j y hy with⟨g1,g2⟩ | ⟨k',id',b',rfl,g2,g3,g4,g5,g6⟩;rw [d j g1,d i h1];exact ho.alone j y hj g2 S;rw [o k' id' g2,d i h1];have:=s id' b' g4 g3 (by rw [← g5];exact S);omega;rw [d i h1,K _ hb] at Q;exact ho.free c e fz Q;have a8:Q7 b=true:=by rw [← W];exact L
 have ho:=hst.rm.own id b (by rw [hst.lim];exact Y) J a8;have hn:=s id b Y J a8;refine⟨λj y hj hy S=>?_,λc e fz Q=>?_⟩;rw [o k id h2];rcases l j y hy with⟨g1,g2⟩ | ⟨k',id',b',rfl,g2,g3,g4,g5,g6⟩;rw [d j g1];have:=dB (E.blk j y g2) S;omega;rw [o k' id' g2];refine ho.alone id' b' (λe=>hj ?_) g3 (by rw [← g5];exact S);subst e;have al:g.ids.Nodup:=by rw [R];exact aj
 have:k'=k:=(acN (gq.1 g2).1 al).1 (g2.trans h2.symm);rw [this];rw [o k id h2] at Q;exact ho.free c e fz Q;rintro b ⟨i,x,B,A,L,rfl⟩;rw [k3] at B;rcases l i x A with⟨h1,h2⟩ | ⟨k,id,bb,rfl,h2,J,Y,W,h6⟩;rw [d i h1];exact .inl ⟨i,x,B,h2,L,rfl⟩;rw [o k id h2];exact .inr (s id bb Y J (by rw [← W];exact L))
end
section
variable {P:Program}
structure Sum where
 f:FuncId
 args:List d9
 bs:List NB
 a:AV
noncomputable def sumOf (l:List Sum)(f:FuncId)(args:List d9)(bs:List NB):Option AV:=
 List.rec none (λs _ ih=>bi (Nat.beq s.f f) (bi (rz (dz 100) s.args args) (bi (jE s.bs bs) (some s.a) ih) ih) ih) l
theorem wF {G:Mem}:∀(l:List Sum),(∀s∈l,jh P G s.f s.args s.bs s.a)->∀f args bs a,sumOf l f args bs=some a->jh P G f args bs a
 | [],_,f,args,bs,a,h=>by cases h
 | s::l,hl,f,args,bs,a,h=>by
  have ih:=wF l (λs hs=>hl s (by simp [hs])) f args bs a;have h:bi (Nat.beq s.f f) (bi (rz (dz 100) s.args args) (bi (jE s.bs bs) (some s.a) (sumOf l f args bs)) (sumOf l f args bs)) (sumOf l f args bs)=some a:=h;cases h1:Nat.beq s.f f with
  | false=>rw [h1] at h;exact ih h
  | true=>
   rw [h1] at h;cases h2:rz (dz 100) s.args args with
   | false=>rw [h2] at h;exact ih h
   | true=>
    rw [h2] at h;cases h3:jE s.bs bs with
    | false=>rw [h3] at h;exact ih h
    | true=>rw [h3] at h;have h:some s.a=some a:=h;cases h;rw [← aP h1,← jN (iw 100) _ _ h2,← ou _ _ h3];exact hl s (by simp)
structure Un (P:Program)(K:Known):Prop where
 mix:P.follows .mixedOrders=true
 fns:∀f sf,K.fns f=some sf->oO P f sf
 base:∃BI,Di K.base BI
 sum:∀f args bs a,K.sum f args bs=some a->jh P K.base f args bs a
 eff:∀{f:FuncId} {args:List d9} {m:Mem} {outs:List VM},K.eff f args m=some outs->zm P f∧∀{ι:H6} {w:World},RM P K.base ι m w.heap->X0 (m.nm ι) args->
  CallsIn Fence.wide 0 P f (o9 ι args).toArray w (O0 P K.base ι m w outs)
theorem tq (K:Known)(a:Nat)(b:Fn)(args:List d9)(m:Mem):l9 K a 0 b args m=none:=rfl
theorem dH (K:Known)(fuel n:Nat)(fn:Fn)(args:List d9)(m:Mem):l9 K fuel (n+1) fn args m=match fn with
  | .func f=>Option.rec (ob (K.fns f) λsf=>bi sf.pure (gD K (l9 K fuel n) fuel f sf args m) (ko (l9 K fuel n) (qQ K (l9 K fuel n) fuel) fuel sf args m)) (λl=>some l) (K.eff f args m)
  | .yield l=>xq (l9 K fuel n) fuel l args m
  | _=>none:=rfl
theorem Lb {K:Known}(i:Un P K){cf:D7}(d:lI P K.base cf){c:Nat}{f:FuncId}{sf:M9}(j:oO P f sf){args:List d9}{g:List NB}{a:AV}(h:zW K cf c f sf args g=some a):jh P K.base f args g a:=by
 unfold zW at h;cases hs:K.sum f args g with
 | some b=>rw [hs] at h;have h:some b=some a:=h;cases h;exact i.sum f args g _ hs
 | none=>rw [hs] at h;exact NN d (FX i.fns d c λe k r=>ni i.mix d e k r) i.mix c j h
theorem zB {K:Known}(g:Un P K)(b:Nat):∀n,lI P K.base (l9 K b n):=by
 intro n;induction n with
 | zero=>exact⟨(λh=>by rw [tq] at h;cases h),(λh=>by rw [tq] at h;cases h),(λh=>by rw [tq] at h;cases h)⟩
 | succ n ih=>
  refine⟨λ{f args m outs} h=>?_,λ{l args m outs} h {ι w} hm hargs=>?_,λ{fn args m outs} h=>?_⟩
  ·rw [dH] at h;have h:(Option.rec (ob (K.fns f) λe=>bi e.pure (gD K (l9 K b n) b f e args m) (ko (l9 K b n) (qQ K (l9 K b n) b) b e args m)) (λl=>some l) (K.eff f args m):eO)=some outs:=h;cases he:K.eff f args m with
   | some l=>rw [he] at h;have h:some l=some outs:=h;cases h;exact g.eff he
   | none=>
   rw [he] at h;have h:(ob (K.fns f) λe=>bi e.pure (gD K (l9 K b n) b f e args m) (ko (l9 K b n) (qQ K (l9 K b n) b) b e args m))=some outs:=h;obtain⟨e,k,h⟩:=z8 h;have j:=g.fns f e k;refine⟨j.ok,λ{ι w} hm hargs=>?_⟩;cases hp:e.pure with
   | false=>rw [hp] at h;exact KH ih (FX g.fns ih b λd i r=>ni g.mix ih d i r) b (λd i r=>ni g.mix ih d i r) j h hm hargs
   | true=>rw [hp] at h;have h:gD K (l9 K b n) b f e args m=some outs:=h;obtain⟨c,o,h⟩:=z8 h;obtain⟨a,p,h⟩:=z8 h;obtain⟨v,q,h⟩:=z8 h;obtain⟨t,s,h⟩:=z8 h;cases h;exact La g.base hm hargs o (Lb g ih j p) q s
  rw [dH] at h;exact KG ih b (λd i r=>ni g.mix ih d i r) h hm hargs;rw [dH] at h;cases fn with
  | func f=>exact .inl ⟨f,rfl⟩
  | yield l=>exact .inr ⟨l,rfl⟩
  | _=>cases h
theorem NQ {K:Known}(d:Un P K){b n:Nat}{f:FuncId}{sf:M9}(e:oO P f sf){args:List d9}{c:List NB}{a:AV}(h:zW K (l9 K b n) b f sf args c=some a):jh P K.base f args c a:=
 Lb d (zB d b n) e h
end
noncomputable def Rj (pure rc:Bool)(a:AFn):M9:=⟨pure,a.args,a.nslots,a.results,xk a.body,bif rc then some a.body else none⟩
theorem Pd {P:Program}{d:List Nat}{f:FuncId}{a:AFn}(h:MX P d f=some a)(j m:Bool):oO P f (Rj j m a):=by
 unfold MX at h;split at h;cases h;rename_i k g;split at h;cases h;rename_i c l;split at h;rename_i b r s u;split at h;rename_i i;cases h;simp only [gI,bne_iff_ne,ne_eq] at i;obtain⟨⟨⟨n,o⟩,p⟩,q⟩:=i;refine⟨⟨k,g,by rw [l];rfl,q⟩,d,k,c,b,r,g,l,s,u,n,λt v=>?_,?_,rfl,rfl,rfl,rfl,λw e=>?_⟩;exact Eq.mp Xb (aap.1 o t v);have:d.length<1152921504606846976:=Eq.mp Xb p;exact this;cases m with
 | true=>exact (Xl e).symm
 | false=>cases e
 cases h;cases h
theorem Pe {P:Program}{b:List Nat}{f:FuncId}{c d:Bool}{sf:M9}(h:(MX P b f).map (Rj c d)=some sf):oO P f sf:=by
 cases hc:MX P b f with
 | none=>rw [hc] at h;cases h
 | some a=>rw [hc] at h;cases h;exact Pd hc c d
end Go.AM
namespace Go.AM
open Go
noncomputable section
def TOk (P:Program)(r:Nat->Nat)(t:T (Option M9)):Prop:=∀i sf,t.get i=some (some sf)->oO P (r i) sf
theorem akD {P:Program}{r:Nat->Nat}:TOk P r .e:=λi a h=>by cases h
def OOk (P:Program)(i:Nat)(o:Option M9):Prop:=∀sf,o=some sf->oO P i sf
theorem akF {P:Program}{i:Nat}:OOk P i none:=λ_ h=>by cases h
theorem akG {P:Program}{i:Nat}{sf:M9}(h:oO P i sf):OOk P i (some sf):=λ_ e=>by cases e;exact h
theorem afk {P:Program}{r:Nat->Nat}{a b:T (Option M9)}{x:Option M9}(d:TOk P (λi=>r (2*i+1)) a)(f:OOk P (r 0) x)(hb:TOk P (λi=>r (2*i+2)) b):TOk P r (.nd a x b):=by
 intro i sf h;cases i with
 | zero=>exact f sf (Xl h)
 | succ j=>
  have h:(Nat.rec (a.get (Nat.div j 2)) (λ_ _=>b.get (Nat.div j 2)) (Nat.mod j 2):Option (Option M9))=some (some sf):=h;rcases aar j with h2 | h2;have c:Nat.mod j 2=0:=h2;rw [c] at h;have:=d _ sf h;have e:2*Nat.div j 2+1=j+1:=by have:Nat.div j 2=j / 2:=rfl;omega
  have this:oO P (r (2*Nat.div j 2+1)) sf:=this;rw [e] at this;exact this;have c:Nat.mod j 2=1:=h2;rw [c] at h;have:=hb _ sf h;have e:2*Nat.div j 2+2=j+1:=by have:Nat.div j 2=j / 2:=rfl;omega
  have this:oO P (r (2*Nat.div j 2+2)) sf:=this;rw [e] at this;exact this
section
variable {α β γ:Type}
@[simp] theorem XK (a:α)(f:α->Option (List β)):bnd (some [a]) f=f a:=_root_.id rfl
@[simp] theorem akH (f:α->Option (List β)):bnd (none:Option (List α)) f=none:=_root_.id rfl
@[simp] theorem afl (a:α)(f:α->Option β):MR (some [a]) f=f a:=_root_.id rfl
@[simp] theorem aa2 (a:α)(z:β)(f:α->β):(Option.rec z (λv=>f v) (some a):β)=f a:=_root_.id rfl
@[simp] theorem aa3 (z:β)(f:α->β):(Option.rec z (λv=>f v) none:β)=z:=_root_.id rfl
end
section
variable (k:IntKind)(b:Bool)(n:Int)(s:List UInt8)(i o l c:Nat)(v:d9)(as bs:List d9)(fn:Fn){β:Type}
@[simp] theorem adI (p:d9->β)(q:β):bW (.bool b) p q=q:=_root_.id rfl
@[simp] theorem afm (p:d9->β)(q:β):bW (.int k n) p q=q:=_root_.id rfl
@[simp] theorem afn (p:d9->β)(q:β):bW (.str s) p q=q:=_root_.id rfl
@[simp] theorem aa4 (p:d9->β)(q:β):bW .nilPtr p q=q:=_root_.id rfl
@[simp] theorem afo (p:d9->β)(q:β):bW (.ptr i o) p q=q:=_root_.id rfl
@[simp] theorem WG (p:d9->β)(q:β):bW .nilSlice p q=q:=_root_.id rfl
@[simp] theorem abe (p:d9->β)(q:β):bW (.slice i o l c) p q=q:=_root_.id rfl
@[simp] theorem aa5 (p:d9->β)(q:β):bW (.sliceU i o l c) p q=q:=_root_.id rfl
@[simp] theorem aa6 (p:d9->β)(q:β):bW .nilMap p q=q:=_root_.id rfl
@[simp] theorem afp (p:d9->β)(q:β):bW (.map i) p q=q:=_root_.id rfl
@[simp] theorem XL (p:d9->β)(q:β):bW .nilFunc p q=q:=_root_.id rfl
@[simp] theorem adJ (p:d9->β)(q:β):bW (.func fn as bs) p q=q:=_root_.id rfl
@[simp] theorem WH (p:d9->β)(q:β):bW .nilIface p q=q:=_root_.id rfl
@[simp] theorem abf (p:d9->β)(q:β):bW (.iface i v) p q=q:=_root_.id rfl
@[simp] theorem afq (p:d9->β)(q:β):bW (.agg as) p q=q:=_root_.id rfl
@[simp] theorem abg (p:d9->β)(q:β):bW (.tuple as) p q=q:=_root_.id rfl
@[simp] theorem abh (p:d9->β)(q:β):bW .undef p q=q:=_root_.id rfl
@[simp] theorem afr (p:d9->β)(q:β):bW (.ng v) p q=p v:=_root_.id rfl
end
@[simp] theorem akI (x:d9)(ls:List d9)(env:T d9):A8 (x::ls) env=x:=_root_.id rfl
@[simp] theorem akJ (a x:d9)(ls:List d9)(env:T d9):ay (a::x::ls) env=x:=_root_.id rfl
@[simp] theorem akK (a b x:d9)(ls:List d9)(env:T d9):aH (a::b::x::ls) env=x:=_root_.id rfl
@[simp] theorem akL (a b c x:d9)(ls:List d9)(env:T d9):lD (a::b::c::x::ls) env=x:=_root_.id rfl
@[simp] theorem aiP (k:Nat)(ls:List d9)(env:T d9):X9 k ls env=ls[k]?.getD .undef:=Tw k ls
@[simp] theorem aiQ (v:d9)(ls:List d9)(env:T d9):C9 v ls env=v:=_root_.id rfl
@[simp] theorem afs (g:T d9->d9)(ls:List d9)(env:T d9):G5 g ls env=g env:=_root_.id rfl
@[simp] theorem aps (l r:T d9)(x:d9):gH (.nd l x r)=x:=_root_.id rfl
@[simp] theorem apt (g:T d9->d9)(l r:T d9)(x:d9):gL g (.nd l x r)=g l:=_root_.id rfl
@[simp] theorem apu (g:T d9->d9)(l r:T d9)(x:d9):gR g (.nd l x r)=g r:=_root_.id rfl
@[simp] theorem apv (v:d9)(l r:T d9)(x:d9):sH v (.nd l x r)=.nd l v r:=_root_.id rfl
@[simp] theorem apw (s:d9->T d9->T d9)(v:d9)(l r:T d9)(x:d9):sL s v (.nd l x r)=.nd (s v l) x r:=_root_.id rfl
@[simp] theorem apx (s:d9->T d9->T d9)(v:d9)(l r:T d9)(x:d9):sR s v (.nd l x r)=.nd l x (s v r):=_root_.id rfl
@[simp] theorem akM (v:d9)(t:T d9):C8 v t=t:=_root_.id rfl
@[simp] theorem aiR (ls:List d9)(env:T d9):evs [] ls env=[]:=_root_.id rfl
@[simp] theorem aft (x:OF)(l:List OF)(ls:List d9)(env:T d9):evs (x::l) ls env=x ls env::evs l ls env:=_root_.id rfl
section
variable {β:Type}(ls:List d9)(env:T d9)(m:Mem)
@[simp] theorem aiS (x:OF):J8 x ls env=some (x ls env):=_root_.id rfl
@[simp] theorem afu (c a b:OF):bZ c a b ls env=nO (c ls env) λt=>some (bi t (a ls env) (b ls env)):=_root_.id rfl
@[simp] theorem afv (b:Bool)(k:Bool->Option β):nO (.bool b) k=k b:=_root_.id rfl
@[simp] theorem aiT (k:IntKind)(n:Int)(f:IntKind->Int->Option β):qh (.int k n) f=f k n:=_root_.id rfl
@[simp] theorem XM (s:List UInt8)(f:List UInt8->Option β):nI (.str s) f=f s:=_root_.id rfl
@[simp] theorem Pf (i o:Nat)(f:Nat->Nat->Option β):eP (.ptr i o) f=f i o:=_root_.id rfl
@[simp] theorem aiU (l:List d9)(f:List d9->Option β):vL (.agg l) f=f l:=_root_.id rfl
@[simp] theorem aiV (l:List d9)(f:List d9->Option β):Jz (.tuple l) f=f l:=_root_.id rfl
@[simp] theorem aiW (i:Nat)(z:Option β)(f:Nat->Option β):rJ (.map i) z f=f i:=_root_.id rfl
@[simp] theorem afw (z:Option β)(f:Nat->Option β):rJ .nilMap z f=z:=_root_.id rfl
@[simp] theorem aiX (z:Option β)(f g:Nat->Nat->Nat->Nat->Option β):qj .nilSlice z f g=z:=_root_.id rfl
@[simp] theorem uq (a b c d:Nat)(z:Option β)(f g:Nat->Nat->Nat->Nat->Option β):qj (.slice a b c d) z f g=f a b c d:=_root_.id rfl
@[simp] theorem qL (a b c d:Nat)(z:Option β)(f g:Nat->Nat->Nat->Nat->Option β):qj (.sliceU a b c d) z f g=g a b c d:=_root_.id rfl
@[simp] theorem aiY (fn:Fn)(a b:List d9)(f:Fn->List d9->List d9->Option β):JA (.func fn a b) f=f fn a b:=_root_.id rfl
@[simp] theorem Uo (n:Nat)(k:Nat->Option β):JB (n:Int) k=k n:=_root_.id rfl
@[simp] theorem abj (n:Nat)(k:Nat->Option β):JB (.ofNat n) k=k n:=_root_.id rfl
@[simp] theorem adK (k:Nat->Option β):JB 0 k=k 0:=_root_.id rfl
@[simp] theorem afx (k:Nat->Option β):JB 1 k=k 1:=_root_.id rfl
@[simp] theorem XO (k:IntKind)(n:Int)(f:Nat->Option β):iM (.int k n) f=JB n f:=_root_.id rfl
@[simp] theorem Dk (k:IntKind):WY k k=true:=by cases k<;>rfl
@[simp] theorem akN (f:IB)(g:SB)(x y:OF):I5 f g x y ls env=AP f g (x ls env) (y ls env):=_root_.id rfl
@[simp] theorem afy (f:IB)(g:SB)(k:IntKind)(a b:Int):AP f g (.int k a) (.int k b)=f k a b:=by show bi (WY k k) (f k a b) none=_;rw [Dk];rfl
@[simp] theorem afz (f:IB)(g:SB)(a b:List UInt8):AP f g (.str a) (.str b)=g a b:=_root_.id rfl
@[simp] theorem aiZ (x y:OF):aaV x y ls env=WZ (x ls env) (y ls env):=_root_.id rfl
@[simp] theorem aj0 (x y:OF):aaW x y ls env=Xa (x ls env) (y ls env):=_root_.id rfl
@[simp] theorem aj1 (a b:Int):aV .i64 a b=some (.int .i64 (tX (a+b))):=_root_.id rfl
@[simp] theorem aj2 (a b:Int):qZ .i64 a b=some (.int .i64 (tX (a-b))):=_root_.id rfl
@[simp] theorem aj3 (a b:Int):JC .i64 a b=some (.int .i64 (tX (a*b))):=_root_.id rfl
@[simp] theorem akO (k:IntKind)(a b:Int):cK k a b=some (.bool (decide (a=b))):=by show some (d9.bool (aX a b))=_;rw [dW,show (a==b)=decide (a=b) from rfl]
@[simp] theorem akP (k:IntKind)(a b:Int):zR k a b=some (.bool (!decide (a=b))):=by show some (d9.bool (!aX a b))=_;rw [dW,show (a==b)=decide (a=b) from rfl]
@[simp] theorem akQ (k:IntKind)(a b:Int):wP k a b=some (.bool (decide (a<b))):=by rw [← gF];rfl
@[simp] theorem akR (k:IntKind)(a b:Int):MB k a b=some (.bool (decide (a<=b))):=by show some (d9.bool (!nP b a))=_;rw [gF,show (!decide (b<a))=decide (a<=b) from by rw [aaz];simp]
@[simp] theorem akS (k:IntKind)(a b:Int):Es k a b=some (.bool (decide (b<a))):=by rw [← gF];rfl
@[simp] theorem akT (k:IntKind)(a b:Int):Oz k a b=some (.bool (decide (b<=a))):=by show some (d9.bool (!nP a b))=_;rw [gF,show (!decide (a<b))=decide (b<=a) from by rw [aaz];simp]
theorem U8 {n:Int}(h:-9223372036854775808<=n)(h':n<9223372036854775808):tX n=n:=by
 cases n with
 | ofNat m=>show bi (Nat.blt m 9223372036854775808) _ _=_;rw [show Nat.blt m 9223372036854775808=true from Xb.mpr (by simp at h';omega)];rfl
 | negSucc m=>show bi (Nat.blt m 9223372036854775808) _ _=_;rw [show Nat.blt m 9223372036854775808=true from Xb.mpr (by omega)];rfl
@[simp] theorem akU (f:El)(x y:OF):ZT f x y ls env=ob (f (x ls env) (y ls env)) λb=>some (.bool b):=_root_.id rfl
@[simp] theorem akV (f:El)(x y:OF):pNe f x y ls env=ob (f (x ls env) (y ls env)) λb=>some (.bool (!b)):=_root_.id rfl
@[simp] theorem aj4 (x:OF):MQ x ls env=nO (x ls env) λb=>some (.bool (!b)):=_root_.id rfl
@[simp] theorem aj5 (x:OF):aaX x ls env=qh (x ls env) λk n=>some (wT k (· ^^^ ·) (bi k.signed (-1) k.max) n):=_root_.id rfl
@[simp] theorem aj6 (x:OF):yN x ls env=qh (x ls env) λk n=>some (.int k (kV k (0-n))):=_root_.id rfl
@[simp] theorem afA (k:IntKind)(x:OF):JE k x ls env=qh (x ls env) λ_ n=>some (.int k (kV k n)):=_root_.id rfl
@[simp] theorem adL (t:TypeId)(x:OF):GQ t x ls env=some (.iface t (x ls env)):=_root_.id rfl
@[simp] theorem afB (fn:Fn)(a b:List OF):uR fn a b ls env=some (.func fn (evs a ls env) (evs b ls env)):=_root_.id rfl
@[simp] theorem XP (x:OF):bH x ls env=yM (x ls env):=_root_.id rfl
@[simp] theorem abk (i o:Nat):yM (.ptr i o)=some (.ptr i o):=_root_.id rfl
@[simp] theorem aa7 (f:FuncId)(a b:List d9):yM (.func (.func f) a b)=some (.func (.func f) a b):=_root_.id rfl
@[simp] theorem adM (o:Nat)(x:OF):H9 o x ls env=eP (x ls env) λid off=>some (.ptr id (off+o)):=_root_.id rfl
@[simp] theorem afC (off:Nat)(x:OF):SV off x ls env=vL (x ls env) λcs=>cs[off]?:=by show vL (x ls env) (λcs=>pq off cs)=_;simp
@[simp] theorem afD (off k:Nat)(x:OF):SX off k x ls env=vL (x ls env) λcs=>ob (takeN k (cs.drop off)) λl=>some (.agg l):=by show vL (x ls env) (λcs=>ob (takeN k (jX off cs)) λl=>some (d9.agg l))=_;simp
@[simp] theorem abl {α:Type}(l:List α):takeN 0 l=some []:=_root_.id rfl
@[simp] theorem abm {α:Type}(n:Nat)(x:α)(l:List α):takeN (n+1) (x::l)=ob (takeN n l) λr=>some (x::r):=_root_.id rfl
@[simp] theorem aj7 (x:OF)(i:Nat):pExt x i ls env=Jz (x ls env) λl=>l[i]?:=by show Jz (x ls env) (λl=>pq i l)=_;simp
@[simp] theorem aj8 (x:OF):vN x ls env=qj (x ls env) (some (.int .i64 0)) (λ_ _ n _=>some (.int .i64 n)) (λ_ _ n _=>some (.int .i64 n)):=_root_.id rfl
@[simp] theorem afE (x:OF):BP x ls env=nI (x ls env) λs=>some (.int .i64 s.length):=by show nI (x ls env) (λs=>some (d9.int .i64 (.ofNat (len' s))))=_;simp
@[simp] theorem aj9 (x:OF):aaY x ls env=qj (x ls env) (some (.int .i64 0)) (λ_ _ _ c=>some (.int .i64 c)) (λ_ _ _ _=>none):=_root_.id rfl
theorem ow (len i:Nat)(k:Nat->Option β)(h:i<len):idx len (.int .i64 i) k=k i:=by show bi (Nat.blt i len) (k i) none=_;rw [show Nat.blt i len=true from Xb.mpr h];rfl
@[simp] theorem adN (es:Nat)(x i:OF):O9 es x i ls env=qj (x ls env) none (λid off len _=>idx len (i ls env) λk=>some (.ptr id (off+k*es)))
  (λid off len _=>idx len (i ls env) λk=>some (.ptr id (off+k*es))):=rfl
@[simp] theorem XQ (es n:Nat)(x i:OF):yO es n x i ls env=eP (x ls env) λid off=>idx n (i ls env) λk=>some (.ptr id (off+k*es)):=_root_.id rfl
@[simp] theorem aja (cs:List d9):lay [] ls env cs=some cs:=_root_.id rfl
theorem Uq (p:Nat×Nat×OF)(l:List (Nat×Nat×OF))(cs:List d9):lay (p::l) ls env cs =
  bi (Nat.beq (len' (p.2.2 ls env).cells) p.2.1) (bi (Nat.ble (Nat.add p.1 p.2.1) (len' cs)) (lay l ls env (jY p.1 (p.2.2 ls env).cells cs)) none) none:=rfl
@[simp] theorem adO (z:List d9)(ps:List (Nat×Nat×OF)):Q5 z ps ls env=ob (lay ps ls env z) λl=>some (.agg l):=_root_.id rfl
def ld1 (b:Option N7)(off:Nat):Option d9:=R4 b λrs n rows=>cell1 rs n rows off
def MG (b:Option N7)(off k:Nat):Option d9:=R4 b λrs n rows=>ob (iO rs n rows off k) λl=>some (.agg l)
def Ga (b:Option N7)(off:Nat)(vs:List d9):Option N7:=R4 b λrs n rows=>ob (U6 rs n rows off vs) λrows'=>some (.cells rs n rows')
@[simp] theorem adP (a:OF):eB a ls env m=eP (a ls env) λid off=>ld1 (m.get id) off:=_root_.id rfl
@[simp] theorem adQ (k:Nat)(a:OF):aD k a ls env m=eP (a ls env) λid off=>MG (m.get id) off k:=_root_.id rfl
@[simp] theorem jO (rs n:Nat)(rows:T (List d9))(k:Nat->Nat->T (List d9)->Option β):R4 (some (.cells rs n rows)) k=k rs n rows:=_root_.id rfl
@[simp] theorem akW (es:List (d9×d9))(k:List (d9×d9)->Option β):MP (some (.map es)) k=k es:=_root_.id rfl
theorem uw {rs n:Nat}{rows:T (List d9)}{i j:Nat}{row:List d9}(a:j<rs)(d:i<n)(h:rows.get i=some row):cell1 rs n rows (i*rs+j)=row[j]?:=by
 unfold cell1;have b:Nat.div (i*rs+j) rs=i:=by show (i*rs+j) / rs=i;rw [adE,Nat.mul_add_div (by omega),ajI a];rfl
 have c:Nat.mod (i*rs+j) rs=j:=by show (i*rs+j)%rs=j;rw [adE,ajO,aeS a]
 rw [b,c,h,show Nat.blt i n=true from Xb.mpr d];exact gW _ _
theorem wG {rs n:Nat}{rows:T (List d9)}{i j k:Nat}{row:List d9}(c:j<rs)(f:i<n)(h:rows.get i=some row)(g:row.length=rs)(l:j+k<=rs):
  iO rs n rows (i*rs+j) k=some ((row.drop j).take k):=by
 unfold iO;have d:Nat.div (i*rs+j) rs=i:=by show (i*rs+j) / rs=i;rw [adE,Nat.mul_add_div (by omega),ajI c];rfl
 have e:Nat.mod (i*rs+j) rs=j:=by show (i*rs+j)%rs=j;rw [adE,ajO,aeS c]
 rw [d,e,h,show Nat.blt i n=true from Xb.mpr f];simp only [U0,K5,ku];cases b:Nat.beq j 0 with
 | false=>simp only [O6];exact mK _ _ (by simp;omega)
 | true=>
  have b:=aP b;subst b;simp only [U0];cases a:Nat.beq k rs with
  | true=>have a:=aP a;subst a;simp [g.symm]
  | false=>simp only [O6,J4];exact mK _ _ (by omega)
end
theorem div_lt {a b:Nat}(h:a<b):Nat.div a b=0:=ajI h
theorem mod_lt {a b:Nat}(h:a<b):Nat.mod a b=a:=aeS h
@[simp] theorem afF (cs:List d9)(off:Nat):ld1 (some (r9 cs)) off=cs[off]?:=by
 show cell1 (len' cs) 1 (.nd .e cs .e) off=_;rw [I4];unfold cell1;by_cases h:off<cs.length;rw [div_lt h,mod_lt h];exact gW _ _;rw [show cs[off]?=none from by simp;omega];by_cases h0:cs.length=0;rw [h0,show Nat.div off 0=0 from Nat.div_zero off,show Nat.mod off 0=off from Nat.mod_zero off];show pq off cs=none;rw [gW];simp;omega;have:1<=Nat.div off cs.length:=(Nat.one_le_div_iff (by omega)).2 (by omega);rw [show Nat.blt (Nat.div off cs.length) 1=false from by
  cases hb:Nat.blt (Nat.div off cs.length) 1 with
  | false=>rfl
  | true=>have:=Xb.mp hb;omega]
theorem tu {cs:List d9}{off k:Nat}(h:off+k<=cs.length)(h0:off<cs.length):MG (some (r9 cs)) off k=some (.agg ((cs.drop off).take k)):=by show ob (iO (len' cs) 1 (.nd .e cs .e) off k) (λl=>some (d9.agg l))=_;have:=wG (rs:=cs.length) (n:=1) (rows:=.nd .e cs .e) (i:=0) (j:=off) (k:=k) (row:=cs) h0 (by omega) rfl rfl h;rw [ac7,Z8] at this;rw [I4,this];rfl
theorem tC {cs a:List d9}{off:Nat}(h:off+a.length<=cs.length)(h0:off<cs.length):Ga (some (r9 cs)) off a=some (r9 (cs.take off++(a++cs.drop (off+a.length)))):=by
 show ob (U6 (len' cs) 1 (.nd .e cs .e) off a) (λb=>some (N7.cells (len' cs) 1 b))=_;have c:Nat.ble (Nat.add off a.length) cs.length=true:=Z4 h;have d:U6 cs.length 1 (.nd .e cs .e) off a=some (T.nd .e (jY off a cs) .e):=by unfold U6;rw [div_lt h0,mod_lt h0,I4];show bi (Nat.ble (Nat.add off a.length) cs.length) (some (T.nd .e (jY off a cs) .e)) none=_;rw [c];rfl
 rw [I4,d,kC off a cs (by omega)];show some (N7.cells cs.length 1 _)=some (N7.cells (len' _) 1 _);rw [I4];congr 2;simp;omega
def Mem.Ok (m:Mem):Prop:=T.Ok m.t m.nx
theorem Mem.Ok.new {m:Mem}(h:m.Ok)(b:N7):(m.new b).Ok:=T.Ok.push h b
theorem Mem.Ok.set {m:Mem}(h:m.Ok){i:Nat}(a:i<m.nx)(b:N7):(m.set i b).Ok:=T.Ok.put h i b a
theorem Iw {m:Mem}(h:m.Ok)(b:N7){i:Nat}(a:i=m.nx):(m.new b).get i=some b:=by rw [Mem.J9 h,if_pos a]
theorem NR {m:Mem}(h:m.Ok)(b:N7){i:Nat}(a:i≠m.nx):(m.new b).get i=m.get i:=by rw [Mem.J9 h,if_neg a]
theorem R3 {m:Mem}(h:m.Ok)(b:N7){i j:Nat}(c:j<m.nx)(a:i=j):(m.set j b).get i=some b:=by rw [Mem.U1 h c,if_pos a]
theorem K6 {m:Mem}(h:m.Ok)(b:N7){i j:Nat}(c:j<m.nx)(a:i≠j):(m.set j b).get i=m.get i:=by rw [Mem.U1 h c,if_neg a]
theorem jP {β:Type}{m:Mem}{id off:Nat}{a:List d9}{k:Mem->Option β}(d:m.lim<=id)(c:K4 a=true):storeAt m id off a k=ob (Ga (m.get id) off a) λb=>k (m.set id b):=by
 unfold storeAt;rw [show Nat.blt id m.lim=false from by
  cases hb:Nat.blt id m.lim with
  | false=>rfl
  | true=>have:=Xb.mp hb;omega,c]
 simp only [O6,U0];unfold Ga;match m.get id with
 | some (.cells rs n rows)=>show ob (U6 rs n rows off a) _=ob (ob (U6 rs n rows off a) _) _;cases U6 rs n rows off a<;>rfl
 | some .void | some .dead | some (.map _) | some (.iter ..) | some (.tail _) | some (.loop ..) | some .deferred | some (.siter ..) | some (.buf ..) | some (.mapU _) | none=>rfl
theorem Rk (b:Nat)(a x:OF)(cf:D7)(ls:List d9)(env:T d9)(m:Mem):K7 b a x cf ls env m=eP (a ls env) λid off=>
  bi (Nat.beq (x ls env).cells.length b) (storeAt m id off (x ls env).cells λm'=>some [⟨.undef,m'⟩]) none:=by
 show eP (a ls env) (λid off=>bi (Nat.beq (len' (x ls env).cells) b) (storeAt m id off (x ls env).cells λm'=>one .undef m') none)=_;simp only [I4];rfl
@[simp] theorem abn:K4 []=true:=_root_.id rfl
@[simp] theorem bT (v:d9)(l:List d9):K4 (v::l)=bi (G9 v) (K4 l) false:=_root_.id rfl
section
variable (cf:D7)(ls:List d9)(env:T d9)(m:Mem)(d:d9->T d9->T d9)(k:RC)
@[simp] theorem afG:j6 cf ls env m=some [⟨env,m,none,[]⟩]:=_root_.id rfl
@[simp] theorem akX (f:PF):D9 f d k cf ls env m=ob (f ls env) λv=>k cf (v::ls) (d v env) m:=_root_.id rfl
@[simp] theorem ajb (f:PF):j5 f k cf ls env m=ob (f ls env) λv=>k cf (v::ls) env m:=_root_.id rfl
@[simp] theorem akY (f:RF):Xg f d k cf ls env m=ob (f ls env m) λv=>k cf (v::ls) (d v env) m:=_root_.id rfl
@[simp] theorem ajc (f:RF):u6 f k cf ls env m=ob (f ls env m) λv=>k cf (v::ls) env m:=_root_.id rfl
@[simp] theorem adR:bL m none=m:=_root_.id rfl
@[simp] theorem adS (b:N7):bL m (some b)=m.new b:=_root_.id rfl
@[simp] theorem akZ (f:LF):fq f d k cf ls env m=ob (f ls env m.nx) λr=>k cf (r.1::ls) (d r.1 env) (bL m r.2):=_root_.id rfl
@[simp] theorem ajd (f:LF):gX f k cf ls env m=ob (f ls env m.nx) λr=>k cf (r.1::ls) env (bL m r.2):=_root_.id rfl
@[simp] theorem abo (f:EF):MC f d k cf ls env m=bnd (f cf ls env m) λr=>bW r.v (λx=>some [⟨env,r.m,some x,[]⟩]) (k cf (r.v::ls) (d r.v env) r.m):=_root_.id rfl
@[simp] theorem Iy (f:EF):u7 f k cf ls env m=bnd (f cf ls env m) λr=>bW r.v (λx=>some [⟨env,r.m,some x,[]⟩]) (k cf (r.v::ls) env r.m):=_root_.id rfl
@[simp] theorem adT (z:List d9)(i:Nat):iQ z ls env i=some (.ptr i 0,some (r9 z)):=_root_.id rfl
@[simp] theorem aje (x:OF)(i:Nat):JG x ls env i=some (.ptr i 0,some (r9 (x ls env).cells)):=_root_.id rfl
@[simp] theorem adU (i:Nat):fM ls env i=some (.map i,some (.map [])):=_root_.id rfl
@[simp] theorem adV (l:List d9):(d9.agg l).cells=l:=_root_.id rfl
@[simp] theorem adW (k:IntKind)(n:Int):(d9.int k n).cells=[.int k n]:=_root_.id rfl
@[simp] theorem abp (b:Bool):(d9.bool b).cells=[.bool b]:=_root_.id rfl
@[simp] theorem adX (s:List UInt8):(d9.str s).cells=[.str s]:=_root_.id rfl
@[simp] theorem adY (i o:Nat):(d9.ptr i o).cells=[.ptr i o]:=_root_.id rfl
@[simp] theorem adZ (i:Nat):(d9.map i).cells=[.map i]:=_root_.id rfl
@[simp] theorem cells_func (f:Fn)(a b:List d9):(d9.func f a b).cells=[.func f a b]:=_root_.id rfl
@[simp] theorem aa8 (a b c d:Nat):(d9.slice a b c d).cells=[.slice a b c d]:=_root_.id rfl
@[simp] theorem XR (a b c d:Nat):(d9.sliceU a b c d).cells=[.sliceU a b c d]:=_root_.id rfl
@[simp] theorem Ur:d9.nilSlice.cells=[.nilSlice]:=_root_.id rfl
@[simp] theorem afH (f:FuncId)(as:List OF):y8 f as cf ls env m=cf (.func f) (evs as ls env) m:=_root_.id rfl
@[simp] theorem ae0 (f:OF)(as:List OF):bV f as cf ls env m=JJ cf m (evs as ls env) (f ls env):=_root_.id rfl
@[simp] theorem bf (as:List d9)(f:FuncId)(a b:List d9):JJ cf m as (.func (.func f) a b)=cf (.func f) (a++(as++b)) m:=by show cf (.func f) (ah a (ah as b)) m=_;simp
end
@[simp] theorem afI (b:Bool):nJ true (.bool b)=b:=by cases b<;>rfl
@[simp] theorem ae1 (b:Bool):nJ false (.bool b)=!b:=by cases b<;>rfl
section
variable (w:Bool)(x:OF)(ls:List d9)(env:T d9)(m:Mem)
@[simp] theorem apy (f:PF):gP x w f ls env=bi (nJ w (x ls env)) (f ls env) (some .undef):=_root_.id rfl
@[simp] theorem al0 (f:RF):ME x w f ls env m=bi (nJ w (x ls env)) (f ls env m) (some .undef):=_root_.id rfl
@[simp] theorem al1 (f:LF)(i:Nat):gLk x w f ls env i=bi (nJ w (x ls env)) (f ls env i) (some (.undef,none)):=_root_.id rfl
@[simp] theorem apz (f:EF)(cf:D7):gE x w f cf ls env m=bi (nJ w (x ls env)) (f cf ls env m) (some [⟨.undef,m⟩]):=_root_.id rfl
end
@[simp] theorem T.afJ {α:Type}(x:α)(t:T α)(i:Nat):T.rep x 0 t i=t:=_root_.id rfl
attribute [simp] T.Ce T.R9 T.bM
section
variable (cf:D7)(fu:Nat)(ir:Option Nat)(env:T d9)(m:Mem)(k:List Mk)
@[simp] theorem ajf (x:aT):mH x env m k=some [⟨x,env,m,k,none⟩]:=_root_.id rfl
@[simp] theorem ae2:y7 cf fu ir env m k=some [⟨.normal,env,m,k,none⟩]:=_root_.id rfl
@[simp] theorem yw (r:RC):j4 r cf fu ir env m k=bnd (r cf [] env m) (eT k):=_root_.id rfl
@[simp] theorem ae3:eT k ⟨env,m,none,[]⟩=some [⟨.normal,env,m,k,none⟩]:=_root_.id rfl
@[simp] theorem ae4 (n:Nat)(r:DC):Y0 n r cf fu ir env m k=bnd (r cf m.nx [] env (reserve n m) [reserve n m]) (eT k):=_root_.id rfl
def XT (b:SC)(cf:D7)(fu:Nat)(ir:Option Nat)(o:Out):Option (List Out):=aT.rec (b cf fu ir o.env o.m o.marks) (λ_=>some [o]) (some [o]) o.x
@[simp] theorem tF (a b:SC):j3 a b cf fu ir env m k=bnd (a cf fu ir env m k) (XT b cf fu ir):=_root_.id rfl
@[simp] theorem aa9 (b:SC)(p:Option d9):XT b cf fu ir ⟨.normal,env,m,k,p⟩=b cf fu ir env m k:=_root_.id rfl
@[simp] theorem ae5 (b:SC)(i:Nat)(p:Option d9):XT b cf fu ir ⟨.exit i,env,m,k,p⟩=some [⟨.exit i,env,m,k,p⟩]:=_root_.id rfl
@[simp] theorem afK (b:SC)(p:Option d9):XT b cf fu ir ⟨.ret,env,m,k,p⟩=some [⟨.ret,env,m,k,p⟩]:=_root_.id rfl
@[simp] theorem ae6 (c:OF)(a b:SC):o8 c a b cf fu ir env m k=nO (c [] env) λt=>bi t (a cf fu ir env m k) (b cf fu ir env m k):=_root_.id rfl
def Rm (id:Nat)(o:Out):Option (List Out):=aT.rec (some [o]) (λid'=>bi (Nat.beq id id') (mH .normal o.env o.m o.marks) (some [o])) (some [o]) o.x
@[simp] theorem abq (id:Nat)(a:SC):w9 id a cf fu ir env m k=bnd (a cf fu ir env m k) (Rm id):=_root_.id rfl
@[simp] theorem aac (id:Nat)(p:Option d9):Rm id ⟨.normal,env,m,k,p⟩=some [⟨.normal,env,m,k,p⟩]:=_root_.id rfl
@[simp] theorem afL (id:Nat)(p:Option d9):Rm id ⟨.ret,env,m,k,p⟩=some [⟨.ret,env,m,k,p⟩]:=_root_.id rfl
@[simp] theorem ae7 (id i:Nat)(p:Option d9):Rm id ⟨.exit i,env,m,k,p⟩=bi (Nat.beq id i) (some [⟨.normal,env,m,k,none⟩]) (some [⟨.exit i,env,m,k,p⟩]):=_root_.id rfl
@[simp] theorem ae8 (a:SC):I9 a cf fu ir env m k=H7 (λenv m k=>a cf fu ir env m k) fu env m k:=_root_.id rfl
def Pg (f:T d9->Mem->List Mk->Option (List Out))(o:Out):Option (List Out):=aT.rec (f o.env o.m o.marks) (λ_=>some [o]) (some [o]) o.x
theorem A9 (a:T d9->Mem->List Mk->Option (List Out))(n:Nat):H7 a (n+1) env m k=bnd (a env m k) (Pg (H7 a n)):=rfl
@[simp] theorem yA (f:T d9->Mem->List Mk->Option (List Out))(p:Option d9):Pg f ⟨.normal,env,m,k,p⟩=f env m k:=_root_.id rfl
@[simp] theorem abr (f:T d9->Mem->List Mk->Option (List Out))(i:Nat)(p:Option d9):Pg f ⟨.exit i,env,m,k,p⟩=some [⟨.exit i,env,m,k,p⟩]:=_root_.id rfl
@[simp] theorem ae9 (f:T d9->Mem->List Mk->Option (List Out))(p:Option d9):Pg f ⟨.ret,env,m,k,p⟩=some [⟨.ret,env,m,k,p⟩]:=_root_.id rfl
@[simp] theorem aea (id:Nat):yS id cf fu ir env m k=some [⟨.exit id,env,m,k,none⟩]:=_root_.id rfl
@[simp] theorem afM:p9 cf fu ir env m k=some [⟨.ret,env,m,k,none⟩]:=_root_.id rfl
end
section
variable (cf:D7)(b:Nat)(ls:List d9)(env:T d9)(m:Mem)(gs:List Mem)(d:d9->T d9->T d9)(k:DC)(c:Nat)
attribute [simp] Ik Il
@[simp] theorem afN:kg cf b ls env m gs=some [⟨env,m,none,[]⟩]:=_root_.id rfl
@[simp] theorem al2 (f:PF):O4 f d k cf b ls env m gs=ob (f ls env) λv=>k cf b (v::ls) (d v env) m gs:=_root_.id rfl
@[simp] theorem al3 (f:RF):fD f c d k cf b ls env m gs=ob (f ls env (hd m gs)) λv=>bi (stable f ls env v c (tl gs)) (k cf b (v::ls) (d v env) m gs) none:=_root_.id rfl
@[simp] theorem al4 (f:LF):dcL f c d k cf b ls env m gs=ob (f ls env (b+c)) λr=>bi (isVoid (m.get (b+c))) (bi (jR (b+c) gs) (k cf b (r.1::ls) (d r.1 env) (JM m (b+c) r.2) gs) none) none:=_root_.id rfl
@[simp] theorem al5 (f:EF)(a:GF):pz f a d k cf b ls env m gs=MR (f cf ls env m) λr=>bW r.v (λx=>ob (a b (.undef::ls) (d .undef env) m (m::gs) [env]) λes=>some (rT r.m x es)) (k cf b (r.v::ls) (d r.v env) r.m (r.m::gs)):=_root_.id rfl
section
variable (es:List (T d9))(g:GF)
@[simp] theorem afO:aU b ls env m gs es=some es:=_root_.id rfl
@[simp] theorem al6:MF b ls env m gs es=none:=_root_.id rfl
@[simp] theorem al7:fV d g b ls env m gs es=g b (.undef::ls) (d .undef env) m gs es:=_root_.id rfl
@[simp] theorem al8:rA d g b ls env m gs es=g b (.undef::ls) (d .undef env) m (m::gs) es:=_root_.id rfl
@[simp] theorem al9 (f:PF)(w:Bool):aF f w d g b ls env m gs es=ob (f ls env) λv=>bi (Qs w v) (g b (v::ls) (d v env) m gs (Sy w (d v) es)) none:=_root_.id rfl
@[simp] theorem ala (f:RF)(c:Nat)(w:Bool):uJ f c w d g b ls env m gs es=ob (f ls env (hd m gs)) λv=>bi (stable f ls env v c (tl gs)) (bi (Qs w v) (g b (v::ls) (d v env) m gs (Sy w (d v) es)) none) none:=_root_.id rfl
@[simp] theorem alb (f:LF)(c:Nat):ghL f c g b ls env m gs es=ob (f ls env (b+c)) λr=>bi (isVoid (m.get (b+c))) (bi (jR (b+c) gs) (g b (r.1::ls) env (JM m (b+c) r.2) gs es) none) none:=_root_.id rfl
@[simp] theorem abt (v:d9):Qs false v=true:=_root_.id rfl
@[simp] theorem afP (w:Bool)(k:IntKind)(n:Int):Qs w (.int k n)=true:=by cases w<;>rfl
@[simp] theorem aeb (f:T d9->T d9):Sy false f es=es:=_root_.id rfl
@[simp] theorem aec (f:T d9->T d9)(x:T d9):Sy true f [x]=[x,f x]:=_root_.id rfl
@[simp] theorem aed (x:d9):rT m x []=[]:=_root_.id rfl
@[simp] theorem abu (x:d9)(y:T d9):rT m x (y::es)=⟨y,m,some x,[]⟩::rT m x es:=_root_.id rfl
end
@[simp] theorem ajg (g:Mem):hd m (g::gs)=g:=_root_.id rfl
@[simp] theorem ajh (g:Mem):tl (g::gs)=gs:=_root_.id rfl
@[simp] theorem aee (i:Nat)(x:N7):JM m i (some x)=m.set i x:=_root_.id rfl
@[simp] theorem aad:isVoid (some .void)=true:=_root_.id rfl
@[simp] theorem aae (i:Nat):jR i []=true:=_root_.id rfl
@[simp] theorem XU (i:Nat)(g:Mem):jR i (g::gs)=bi (isVoid (g.get i)) (jR i gs) false:=_root_.id rfl
@[simp] theorem aaf (f:RF)(v:d9):stable f ls env v 0 gs=true:=_root_.id rfl
@[simp] theorem aag (f:RF)(v:d9)(n:Nat)(g:Mem):stable f ls env v (n+1) (g::gs)=bi (Option.rec false (λu=>dz 100 u v) (f ls env g)) (stable f ls env v n gs) false:=_root_.id rfl
end
@[simp] theorem Us (env:T d9):aW [] [] env=some env:=_root_.id rfl
@[simp] theorem Sz (j:Option Nat)(a:List (Option Nat))(v:d9)(b:List d9)(env:T d9):aW (j::a) (v::b) env=aW a b (bD j v env):=_root_.id rfl
@[simp] theorem aef (a:iR)(rs:List nH)(env:T d9)(m:Mem):leave a rs ⟨.ret,env,m,[],none⟩=ob (results rs env m) λl=>some [⟨result l,m⟩]:=_root_.id rfl
@[simp] theorem XV (a:iR)(rs:List nH)(env:T d9)(m:Mem):leave a rs ⟨.normal,env,m,[],none⟩=ob (results rs env m) λl=>some [⟨result l,m⟩]:=_root_.id rfl
@[simp] theorem aah (env:T d9)(m:Mem):results [] env m=some []:=_root_.id rfl
@[simp] theorem results_tmp (j:Nat)(rs:List nH)(env:T d9)(m:Mem):results (.tmp j::rs) env m=ob (env.get j) λv=>ob (results rs env m) λl=>some (v::l):=_root_.id rfl
@[simp] theorem abv:result []=.tuple []:=_root_.id rfl
@[simp] theorem abw (v:d9):result [v]=v:=_root_.id rfl
@[simp] theorem abx (v x:d9)(l:List d9):result (v::x::l)=.tuple (v::x::l):=_root_.id rfl
structure Ext (m m':Mem):Prop where
 ok:T.Ok m'.t m'.nx
 nx:m.nx<=m'.nx
 lim:m'.lim=m.lim
 old:∀i,i<m.nx->m'.get i=m.get i
theorem Ext.refl {m:Mem}(h:T.Ok m.t m.nx):Ext m m:=⟨h,lM _,rfl,λ_ _=>rfl⟩
theorem Ext.trans {a b c:Mem}(h:Ext a b)(k:Ext b c):Ext a c:=
 ⟨k.ok,J2 h.nx k.nx,k.lim.trans h.lim,λi d=>(k.old i (q9 d h.nx)).trans (h.old i d)⟩
theorem Ext.new {a m:Mem}(h:Ext a m)(b:N7):Ext a (m.new b):=
 ⟨h.ok.push b,aiB h.nx,h.lim,λi c=>by rw [Mem.J9 h.ok,if_neg (by have:=h.nx;omega)];exact h.old i c⟩
theorem Ext.set {a m:Mem}(h:Ext a m){i:Nat}(c:i<m.nx)(e:a.nx<=i)(b:N7):Ext a (m.set i b):=
 ⟨h.ok.put _ _ c,h.nx,h.lim,λj d=>by rw [Mem.U1 h.ok c,if_neg (by omega)];exact h.old j d⟩
theorem Ext.get {a m:Mem}(h:Ext a m){i:Nat}{b:N7}(d:T.Ok a.t a.nx)(c:a.get i=some b):m.get i=some b:=
 (h.old i (Mem.F9 d c)).trans c
def uM (m:Mem)(v:d9)(xs:List Int):Prop:=
 (v=.nilSlice∧xs=[])∨∃p:Nat×Nat,((∃c,v=.slice p.1 p.2 xs.length c)∨∃es,v=.sliceU p.1 p.2 xs.length es)∧p.1<m.nx∧(xs=[]∨∃n rows,m.get p.1=some (.cells 1 n rows)∧p.2+xs.length<=n∧∀i (h:i<xs.length),rows.get (p.2+i)=some [.int .i64 xs[i]])
theorem uM.ext {m m':Mem}(h:Ext m m'){v:d9}{xs:List Int}(a:uM m v xs):uM m' v xs:=by rcases a with a | ⟨id,h1,h2,h3⟩;exact .inl a;refine .inr ⟨id,h1,q9 h2 h.nx,?_⟩;rcases h3 with h3 | ⟨n,rows,h4,h5,h6⟩;exact .inl h3;exact .inr ⟨n,rows,(h.old id.1 h2).trans h4,h5,h6⟩
theorem Ph {n i:Nat}{rows:T (List d9)}{v:d9}(h:i<n)(a:rows.get i=some [v]):ld1 (some (.cells 1 n rows)) i=some v:=by have:=uw (rs:=1) (n:=n) (rows:=rows) (i:=i) (j:=0) (by omega) h a;rw [ajT] at this;exact this
theorem T9 {i:Nat}(h:i<4611686018427387904):tX ((i:Int)+1)=((i+1:Nat):Int):=by rw [U8 (by omega) (by omega)];rfl
theorem uM.at {m:Mem}{v:d9}{xs:List Int}(h:uM m v xs){i:Nat}(a:i<xs.length):
  ∃q:Nat×Nat,qj v none (λid off len _=>idx len (.int .i64 i) λk=>some (d9.ptr id (off+k))) (λid off len _=>idx len (.int .i64 i) λk=>some (d9.ptr id (off+k)))=some (.ptr q.1 q.2)∧q.1<m.nx∧ld1 (m.get q.1) q.2=some (.int .i64 xs[i]):=by
 rcases h with⟨_,rfl⟩ | ⟨id,h1,h2,h3⟩;simp at a;rcases h3 with rfl | ⟨n,rows,h4,h5,h6⟩;simp at a;refine⟨(id.1,id.2+i),?_,h2,by rw [h4];exact Ph (by omega) (h6 i a)⟩;rcases h1 with⟨c,rfl⟩ | ⟨c,rfl⟩;simp only [uq];rw [ow _ _ _ a];simp only [qL];rw [ow _ _ _ a]
theorem uM.cells {m:Mem}{v:d9}{xs:List Int}(h:uM m v xs):v.cells=[v]:=by rcases h with⟨rfl,rfl⟩ | ⟨id,⟨c,rfl⟩ | ⟨c,rfl⟩,_⟩<;>rfl
theorem uM.ng {m:Mem}{v:d9}{xs:List Int}(h:uM m v xs){β:Type}(p:d9->β)(q:β):bW v p q=q:=by rcases h with⟨rfl,rfl⟩ | ⟨id,⟨c,rfl⟩ | ⟨c,rfl⟩,_⟩<;>rfl
theorem uM.G9 {m:Mem}{v:d9}{xs:List Int}(h:uM m v xs):Go.AM.G9 v=true:=by rcases h with⟨rfl,rfl⟩ | ⟨id,⟨c,rfl⟩ | ⟨c,rfl⟩,_⟩<;>rfl
theorem uM.len {m:Mem}{v:d9}{xs:List Int}(h:uM m v xs):qj v (some (d9.int .i64 0)) (λ_ _ n _=>some (.int .i64 n)) (λ_ _ n _=>some (.int .i64 n))=some (.int .i64 xs.length):=by rcases h with⟨rfl,rfl⟩ | ⟨id,⟨c,rfl⟩ | ⟨c,rfl⟩,_⟩<;>rfl
theorem uM.lenOf {m:Mem}{v:d9}{xs:List Int}(h:uM m v xs):Go.AM.lenOf v=some xs.length:=by rcases h with⟨rfl,rfl⟩ | ⟨id,⟨c,rfl⟩ | ⟨c,rfl⟩,_⟩<;>rfl
def ints (xs:List Int):List d9:=xs.map (d9.int .i64)
namespace T
variable {α:Type}
theorem XW {t:T α}{n:Nat}(h:Ok t n):∀i (x y:α),i<=n->(t.put i x).put i y=t.put i y:=by
 induction h with
 | e=>intro i x y b;obtain rfl:i=0:=by omega
      rfl
 | @nd l r z n hl hr ihl ihr=>
  intro i x y b;cases i with
  | zero=>rfl
  | succ i=>rw [R9,R9];split;rename_i a;rw [R9,if_pos a,ihl _ _ _ (by omega)];rename_i a;rw [R9,if_neg a,ihr _ _ _ (by omega)]
theorem put_comm {t:T α}{n:Nat}(h:Ok t n):∀i (x y:α),i<n->(t.put n x).put i y=(t.put i y).put n x:=by
 induction h with
 | e=>intro i x y a;omega
 | @nd l r z n hl hr ihl ihr=>
  intro i x y a;cases i with
  | zero=>rw [R9,JW,R9];split<;>rfl
  | succ i=>
   rw [R9 (i:=n),R9 (i:=i)];by_cases hn:n%2=0;rw [if_pos hn,R9];by_cases h0:i%2=0;rw [if_pos h0,if_pos h0,R9,if_pos hn];have e:(n+1) / 2=n / 2:=by omega
   rw [e] at hl ihl;have:=ihl (i / 2) x y (by omega);rw [this];rw [if_neg h0,if_neg h0,R9,if_pos hn];rw [if_neg hn,R9];by_cases h0:i%2=0;rw [if_pos h0,if_pos h0,R9,if_neg hn];rw [if_neg h0,if_neg h0,R9,if_neg hn];have:=ihr (i / 2) x y (by omega);rw [this]
end T
theorem yB {α:Type}{p:List α->Prop}(h0:p [])(hs:∀l b,p l->p (l ++ [b])):∀l,p l:=by
 intro l;have:p l.reverse.reverse:=by
  generalize l.reverse=r;induction r with
  | nil=>exact h0
  | cons x r ih=>rw [List.reverse_cons];exact hs _ _ ih
 rwa [List.reverse_reverse] at this
def ext (m:Mem)(l:List N7):Mem:=l.foldl Mem.new m
theorem G7 (m:Mem)(b:N7):m.new b=ext m [b]:=rfl
theorem I8 (m:Mem)(l a:List N7):ext (ext m l) a=ext m (l++a):=by simp [ext]
theorem ext_nil (m:Mem):ext m []=m:=rfl
theorem nu (m:Mem)(l:List N7)(b:N7):ext m (l ++ [b])=(ext m l).new b:=by simp [ext]
@[simp] theorem Lc (m:Mem)(l:List N7):(ext m l).nx=m.nx+l.length:=by
 induction l using yB with
 | h0=>rfl
 | hs l b ih=>rw [nu,Mem.JZ,ih];simp;omega
@[simp] theorem Pj (m:Mem)(l:List N7):(ext m l).lim=m.lim:=by
 induction l using yB with
 | h0=>rfl
 | hs l b ih=>rw [nu,Mem.Xn,ih]
theorem zC {m:Mem}(a:m.Ok)(l:List N7):(ext m l).Ok:=by
 induction l using yB with
 | h0=>exact a
 | hs l b ih=>rw [nu];exact ih.new b
theorem ext_get {m:Mem}(a:m.Ok)(l:List N7)(i:Nat):(ext m l).get i=if i<m.nx then m.get i else l[i-m.nx]?:=by
 induction l using yB with
 | h0=>
  rw [ext_nil];split;rfl;cases h:m.get i with
  | none=>simp
  | some b=>have:=Mem.F9 a h;omega
 | hs l b ih=>rw [nu,Mem.J9 (zC a l),ih,Lc];by_cases h1:i<m.nx;rw [if_neg (by omega),if_pos h1,if_pos h1];rw [if_neg h1,if_neg h1];by_cases h2:i=m.nx+l.length;rw [if_pos h2,aaq (by omega),show i-m.nx-l.length=0 from by omega];rfl;rw [if_neg h2];by_cases h3:i-m.nx<l.length;rw [Y4 h3];rw [aeF (by omega),aeF (by simp;omega)]
theorem G6 {m:Mem}(a:m.Ok)(l:List N7)(c:Nat):(ext m l).get (m.nx+c)=l[c]?:=by rw [ext_get a,if_neg (by omega),show m.nx+c-m.nx=c from by omega]
theorem D6 {m:Mem}(a:m.Ok)(l:List N7):(ext m l).get m.nx=l[0]?:=G6 a l 0
theorem oD {m:Mem}(a:m.Ok)(l:List N7){i:Nat}(h:i<m.nx):(ext m l).get i=m.get i:=by rw [ext_get a,if_pos h]
theorem J5 {m:Mem}(a:m.Ok)(l:List N7):Ext m (ext m l):=⟨zC a l,by simp,by simp,λi b=>oD a l b⟩
theorem Mem.Iz {m:Mem}(c:m.Ok)(a b:N7):(m.new a).set m.nx b=m.new b:=by show (⟨(m.t.put m.nx a).put m.nx b,_,_⟩:Mem)=_;rw [T.XW c _ _ _ (lM _)];rfl
theorem Mem.Ld {m:Mem}(c:m.Ok)(a b:N7){i:Nat}(h:i<m.nx):(m.new a).set i b=(m.set i b).new a:=by show (⟨(m.t.put m.nx a).put i b,_,_⟩:Mem)=⟨(m.t.put i b).put m.nx a,_,_⟩;rw [T.put_comm c _ _ _ h];rfl
theorem I6 {m:Mem}(d:m.Ok)(l:List N7)(c:Nat)(b:N7)(h:c<l.length):(ext m l).set (m.nx+c) b=ext m (l.set c b):=by
 induction l using yB with
 | h0=>simp at h
 | hs l a ih=>
  rw [nu];by_cases h1:c<l.length;rw [Mem.Ld (zC d l) _ _ (by rw [Lc];omega),ih h1,List.set_append_left _ _ h1,nu];have:c=l.length:=by simp at h;omega
  subst this;have e:m.nx+l.length=(ext m l).nx:=by simp
  rw [e,Mem.Iz (zC d l),List.set_append_right _ _ (lM _)];simp [nu]
theorem H8 {m:Mem}(a:m.Ok)(l:List N7)(b:N7)(h:0<l.length):(ext m l).set m.nx b=ext m (l.set 0 b):=I6 a l 0 b h
end
end Go.AM
namespace Go.AM
open Go
theorem pX {α:Type}(a b:Nat)(x y:α):bi (Nat.beq a b) x y=if a=b then x else y:=sG a b x y
theorem Gb {α:Type}(a b:Nat)(x y:α):bi (Nat.ble a b) x y=if a<=b then x else y:=by
 cases h:Nat.ble a b with
 | true=>rw [if_pos (K9 h)];rfl
 | false=>rw [if_neg (λc=>by rw [Z4 c] at h;cases h)];rfl
theorem Rn {α:Type}(a b:Nat)(x y:α):bi (Nat.blt a b) x y=if a<b then x else y:=Gb (a+1) b x y
theorem aby (ls:List d9)(env:T d9)(p:Nat×Nat×OF)(l:List (Nat×Nat×OF))(cs:List d9):lay (p::l) ls env cs =
  if (p.2.2 ls env).cells.length=p.2.1 then if p.1+p.2.1<=cs.length then lay l ls env (cs.take p.1++((p.2.2 ls env).cells++cs.drop (p.1+(p.2.2 ls env).cells.length))) else none else none:=by
 rw [Uq,pX,I4,I4];split;rename_i h;show bi (Nat.ble (p.1+p.2.1) cs.length) _ _=_;rw [Gb];split;rename_i a;rw [kC _ _ _ (by omega)];rfl;rfl
theorem Ro (b:Nat)(a x:OF)(cf:D7)(ls:List d9)(env:T d9)(m:Mem):K7 b a x cf ls env m=eP (a ls env) λid off=>
  if (x ls env).cells.length=b then storeAt m id off (x ls env).cells λm'=>some [⟨.undef,m'⟩] else none:=by
 rw [Rk];simp only [pX]
theorem N8 {β:Type}{m:Mem}(d:m.Ok)(e:m.lim<=m.nx)(l:List N7)(c off:Nat)(a:List d9)(k:Mem->Option β):
  storeAt (ext m l) (m.nx+c) off a k=bi (K4 a) (ob (Ga l[c]? off a) λb=>k (ext m (l.set c b))) none:=by
 cases h1:K4 a with
 | false=>unfold storeAt;rw [h1];cases Nat.blt (m.nx+c) (ext m l).lim<;>rfl
 | true=>rw [jP (by rw [Pj];omega) h1,G6 d,U0];by_cases hc:c<l.length;congr 1;funext b;rw [I6 d _ _ _ hc];rw [aeF (by omega)];rfl
theorem F7 {β:Type}{m:Mem}(d:m.Ok)(c:m.lim<=m.nx)(l:List N7)(off:Nat)(a:List d9)(k:Mem->Option β):
  storeAt (ext m l) m.nx off a k=bi (K4 a) (ob (Ga l[0]? off a) λb=>k (ext m (l.set 0 b))) none:=N8 d c l 0 off a k
@[simp] theorem XY (j:Nat)(k:Nat)(rs:List nH)(env:T d9)(m:Mem):results (.cell j (some k)::rs) env m=ob (ob (env.get j) λp=>eP p λid off=>MG (m.get id) off k) λv=>ob (results rs env m) λl=>some (v::l):=id rfl
@[simp] theorem WI (j:Nat)(rs:List nH)(env:T d9)(m:Mem):results (.cell j none::rs) env m=ob (ob (env.get j) λp=>eP p λid off=>ld1 (m.get id) off) λv=>ob (results rs env m) λl=>some (v::l):=id rfl
end Go.AM
namespace Go.AM
open Go
section
variable {α β:Type}
@[congr] theorem afQ {b b':Bool}{x a y y':α}(hb:b=b')(c:b'=true->x=a)(d:b'=false->y=y'):bi b x y=bi b' a y':=by
 subst hb;cases b with
 | true=>exact c rfl
 | false=>exact d rfl
@[simp] theorem aji (b:Bool)(x:α):bi b x x=x:=by cases b<;>rfl
@[simp] theorem alc (b:Bool)(x y:α):bi (!b) x y=bi b y x:=by cases b<;>rfl
theorem abz (b:Bool)(x y:α)(k:α->Option β):ob (bi b (some x) (some y)) k=k (bi b x y):=by cases b<;>rfl
theorem XZ (b:Bool)(x y:α)(k:α->Option (List β)):bnd (bi b (some [x]) (some [y])) k=k (bi b x y):=by cases b<;>rfl
theorem Ut (b:Bool)(x y:α)(k:α->Option β):MR (bi b (some [x]) (some [y])) k=k (bi b x y):=by cases b<;>rfl
end
@[simp] theorem aai (b c:Bool):bi b (d9.bool c) (d9.bool false)=.bool (b&&c):=by cases b<;>rfl
@[simp] theorem abA (b c:Bool):bi b (d9.bool true) (d9.bool c)=.bool (b||c):=by cases b<;>rfl
@[simp] theorem ajj {β:Type}(b:Bool)(v w:d9)(p:d9->β)(q:β):bW (bi b v w) p q=bi b (bW v p q) (bW w p q):=by cases b<;>rfl
end Go.AM
namespace Go.AM
open Go
section
variable {α:Type}(a b c:Bool)(x y z:α)
@[simp] theorem ajk:bi b (bi b x y) z=bi b x z:=by cases b<;>rfl
@[simp] theorem afR:bi b x (bi b y z)=bi b x z:=by cases b<;>rfl
@[simp] theorem ajl:bi (b&&c) (bi b x y) z=bi (b&&c) x z:=by cases b<;>cases c<;>rfl
@[simp] theorem ajm:bi (b&&c) (bi c x y) z=bi (b&&c) x z:=by cases b<;>cases c<;>rfl
@[simp] theorem ald:bi (b||c) x (bi b y z)=bi (b||c) x z:=by cases b<;>cases c<;>rfl
@[simp] theorem ale:bi (b||c) x (bi c y z)=bi (b||c) x z:=by cases b<;>cases c<;>rfl
end
end Go.AM
namespace Go.AM
open Go
@[simp] theorem apA (b:Bool)(f a:T d9)(m m':Mem)(p d:Option d9)(k c:List Mk):bi b (⟨f,m,p,k⟩:EM) ⟨a,m',d,c⟩=⟨bi b f a,bi b m m',bi b p d,bi b k c⟩:=by cases b<;>rfl
@[simp] theorem apB (b:Bool)(l a r c:T d9)(x d:d9):bi b (T.nd l x r) (T.nd a d c)=.nd (bi b l a) (bi b x d) (bi b r c):=by cases b<;>rfl
@[simp] theorem alf (b:Bool)(v w:d9)(m m':Mem):bi b (⟨v,m⟩:VM) ⟨w,m'⟩=⟨bi b v w,bi b m m'⟩:=by cases b<;>rfl
end Go.AM
namespace Go.AM
open Go
@[simp] theorem aeg (w:Bool):nJ w .undef=false:=id rfl
def okB (xs:List Int)(i:Nat):Bool:=(decide (1<=xs.getD i 0)&&decide (xs.getD i 0<=1099511627776))&&(decide (i=0)||decide (xs.getD (i-1) 0<xs.getD i 0))
end Go.AM
namespace Go.AM
open Go
@[simp] theorem Rp (c:List PK)(a b:List d9):vM c (.agg a) (.agg b)=aM c a b:=id rfl
@[simp] theorem aeh:aM [] [] []=some true:=id rfl
@[simp] theorem Rq (k:PK)(c:List PK)(x y:d9)(a b:List d9):aM (k::c) (x::a) (y::b)=ob (Et k x y) λr=>bi r (aM c a b) (some false):=id rfl
@[simp] theorem alg:Et .i=K3:=id rfl
@[simp] theorem afS (k:IntKind)(a b:Int):K3 (.int k a) (.int k b)=some (decide (a=b)):=by show bi (WY k k) (some (aX a b)) none=_;rw [Dk,dW,show (a==b)=decide (a=b) from rfl];rfl
@[simp] theorem aaj (b c:Bool):bi b (some c) (some false)=some (b&&c):=by cases b<;>rfl
theorem Rs (n:Nat)(k:IntKind)(i:Int):dz (n+1) (.int k i) (.int k i)=true:=by show bi (WY k k) (aX i i) false=true;rw [Dk,dW];simp
theorem uy (f:d9->d9->Bool)(x y:d9)(a b:List d9):rz f (x::a) (y::b)=bi (f x y) (rz f a b) false:=rfl
theorem Dl (f:d9->d9->Bool):rz f [] []=true:=rfl
theorem Rt (n:Nat)(a b:List d9):dz (n+1) (.agg a) (.agg b)=rz (dz n) a b:=rfl
end Go.AM
namespace Go.AM
open Go
section
variable {α β:Type}
@[congr] theorem apC {o a:Option α}{k:α->Option β}(h:o=a):ob o k=ob a k:=by rw [h]
@[congr] theorem alh {o a:Option (List α)}{k:α->Option (List β)}(h:o=a):bnd o k=bnd a k:=by rw [h]
@[congr] theorem ajn {o a:Option (List α)}{k:α->Option β}(h:o=a):MR o k=MR a k:=by rw [h]
@[congr] theorem ajo {v v':d9}{p:d9->β}{q:β}(h:v=v'):bW v p q=bW v' p q:=by rw [h]
@[congr] theorem ajp {v v':d9}{k:Nat->Nat->Option β}(h:v=v'):eP v k=eP v' k:=by rw [h]
@[congr] theorem ajq {v v':d9}{k:IntKind->Int->Option β}(h:v=v'):qh v k=qh v' k:=by rw [h]
@[congr] theorem afT {v v':d9}{k:Bool->Option β}(h:v=v'):nO v k=nO v' k:=by rw [h]
@[congr] theorem ajr {v v':d9}{k:List d9->Option β}(h:v=v'):vL v k=vL v' k:=by rw [h]
@[congr] theorem ajs {v v':d9}{k:List d9->Option β}(h:v=v'):Jz v k=Jz v' k:=by rw [h]
@[congr] theorem ajt {v v':d9}{k:List UInt8->Option β}(h:v=v'):nI v k=nI v' k:=by rw [h]
@[congr] theorem aju {v v':d9}{k:Nat->Option β}(h:v=v'):iM v k=iM v' k:=by rw [h]
end
end Go.AM
namespace Go.AM
open Go
section
variable {α β:Type}
@[simp high] theorem aei (a:α)(k:α->Option β):ob (some a) k=k a:=id rfl
@[simp high] theorem aej (k:α->Option β):ob none k=none:=id rfl
@[simp high] theorem aek (x y:α):bi true x y=x:=id rfl
@[simp high] theorem abB (x y:α):bi false x y=y:=id rfl
@[simp high] theorem ajv (i:Nat):(T.e:T α).get i=none:=id rfl
@[simp high] theorem abC (l:T α)(x:α)(r:T α):(T.nd l x r).get 0=some x:=id rfl
@[simp high] theorem ajw (i:Nat)(x:α):(T.e:T α).put i x=.nd .e x .e:=id rfl
@[simp high] theorem abD (l:T α)(y:α)(r:T α)(x:α):(T.nd l y r).put 0 x=.nd l x r:=id rfl
@[simp high] theorem abE (x:α)(n:Nat)(t:T α)(i:Nat):T.rep x (n+1) t i=T.rep x n (t.put i x) (i+1):=id rfl
@[simp high] theorem Uu (m:Mem):reserve 0 m=m:=id rfl
@[simp high] theorem Uv (n:Nat)(m:Mem):reserve (n+1) m=reserve n (m.new .void):=id rfl
@[simp high] theorem abF (m:Mem)(b:N7):(m.new b).nx=m.nx+1:=id rfl
@[simp high] theorem ael (m:Mem)(b:N7):(m.new b).lim=m.lim:=id rfl
@[simp high] theorem abG (m:Mem)(i:Nat)(b:N7):(m.set i b).nx=m.nx:=id rfl
@[simp high] theorem aem (m:Mem)(i:Nat)(b:N7):(m.set i b).lim=m.lim:=id rfl
end
end Go.AM
namespace Go.AM
open Go
@[simp] theorem aak:dz 100 .undef .undef=true:=id rfl
end Go.AM
namespace Go.AM
open Go
end Go.AM
namespace Go.AM
open Go
theorem Le {β:Type}{es:Nat}{cells:List d9}(h:cells.length=es)(k:N7->Option β):xg es 1 cells k=k (r9 cells):=by show ob (ob (takeN es cells) λr=>ob (rowsOf es 0 (jX es cells)) λa=>some (r::a)) (λb=>k (.cells es 1 (T.ofList b)))=_;rw [mK _ _ (by omega),K5,ku,ac6 (by omega),Y7 (by omega)];show k (.cells es 1 (.nd .e cells .e))=k (.cells (len' cells) 1 (.nd .e cells .e));rw [I4,h]
theorem Dm (es:Nat)(zero:List d9)(ps:List (Nat×Nat×OF))(ls:List d9)(env:T d9)(a:Nat)(f:zero.length=es):R6 es 1 zero ps ls env a=ob (lay ps ls env zero) λcells=>if cells.length=es then some (.slice a 0 1 1,some (r9 cells)) else none:=by
 show ob (lay ps ls env (ah zero [])) (λcells=>xg es 1 cells λb=>some (d9.slice a 0 1 1,some b))=_;rw [Q8,agq];congr 1;funext cells;split;rename_i h;rw [Le h];rename_i h;show ob (ob (takeN es cells) λr=>ob (rowsOf es 0 (jX es cells)) λc=>some (r::c)) _=none;cases ht:takeN es cells with
 | none=>rfl
 | some r=>
  obtain⟨d,e⟩:=jF _ _ _ ht;rw [K5,ku];cases hd:cells.drop es with
  | nil=>have:=List.drop_eq_nil_iff.1 hd;omega
  | cons x xs=>rfl
@[simp] theorem afU {β:Type}(len:Nat)(k:Nat->Option β):idx len (.int .i64 0) k=if 0<len then k 0 else none:=by show bi (Nat.blt 0 len) (k 0) none=_;rw [Rn]
noncomputable def Lf (b:Option N7)(k:d9)(es:List (d9×d9)):Option N7:=match b with
 | some (.mapU _)=>nI k λ_=>some (.mapU es)
 | _=>some (.map es)
@[simp] theorem afV (es:List (d9×d9))(k:d9)(a:List (d9×d9)):Lf (some (.map es)) k a=some (.map a):=rfl
@[simp] theorem aen (es:List (d9×d9))(s:List UInt8)(a:List (d9×d9)):Lf (some (.mapU es)) (.str s) a=some (.mapU a):=rfl
theorem Ru (m:Mem)(id:Nat)(k:d9)(es:List (d9×d9)):mF m id k es=ob (Lf (m.get id) k es) λb=>some [⟨.undef,m.set id b⟩]:=by
 unfold mF Lf;match m.get id with
 | some (.mapU _)=>cases k<;>rfl
 | some (.map _) | some .void | some .dead | some (.cells ..) | some (.iter ..) | some (.tail _) | some (.loop ..) | some .deferred | some (.siter ..) | some (.buf ..) | none=>rfl
noncomputable def msB (b:Option N7)(f:El)(n:Nat)(k x:d9):Option N7:=
 GK b λes=>ob (O5 f n k es) λr=>Option.rec (Lf b k (es ++ [(k,x)])) (λp=>ob es[p.1]? λe=>bi (Nat.beq e.1.cells.length n) (Lf b k (aN es k x p.1)) none) r
theorem qM (f:El)(n:Nat)(mp k x:OF)(cf:D7)(ls:List d9)(env:T d9)(m:Mem):E9 f n mp k x cf ls env m=rJ (mp ls env) none λid=>bi (Nat.blt id m.lim) none (ob (msB (m.get id) f n (k ls env) (x ls env)) λb=>some [⟨.undef,m.set id b⟩]):=by
 show rJ (mp ls env) none (λid=>bi (Nat.blt id m.lim) none _)=_;congr 1;funext id;congr 1;unfold msB;have d:=Ru m id;have c:∀a,(ob (O5 f n (k ls env) a) λr=>(Option.rec (mF m id (k ls env) (ah a [(k ls env,x ls env)])) (λp=>ob (pq p.1 a) λe=>bi (Nat.beq (len' e.1.cells) n) (mF m id (k ls env) (aN a (k ls env) (x ls env) p.1)) none) r:eO)) =
   ob (ob (O5 f n (k ls env) a) λr=>Option.rec (Lf (m.get id) (k ls env) (a ++ [(k ls env,x ls env)])) (λp=>ob a[p.1]? λe=>bi (Nat.beq e.1.cells.length n) (Lf (m.get id) (k ls env) (aN a (k ls env) (x ls env) p.1)) none) r) λb=>some [⟨.undef,m.set id b⟩]:=λa=>by
  cases O5 f n (k ls env) a with
  | none=>rfl
  | some r=>
   cases r with
   | none=>simp only [K5];rw [d,Q8]
   | some p=>
    simp only [K5];rw [gW];cases a[p.1]? with
    | none=>rfl
    | some e=>
     simp only [K5,I4];cases Nat.beq e.1.cells.length n with
     | true=>simp only [U0];rw [d]
     | false=>rfl
 match hb:m.get id with
 | some (.map a)=>rw [hb] at c;exact c a
 | some (.mapU a)=>rw [hb] at c;exact c a
 | some .void | some .dead | some (.cells ..) | some (.iter ..) | some (.tail _) | some (.loop ..) | some .deferred | some (.siter ..) | some (.buf ..) | none=>rfl
@[congr] theorem ajx {β:Type}{v v':d9}{z:Option β}{k:Nat->Option β}(h:v=v'):rJ v z k=rJ v' z k:=by rw [h]
theorem Pk (es:List (d9×d9))(f:El)(n:Nat)(k x:d9):msB (some (.map es)) f n k x=ob (O5 f n k es) λr=>Option.rec (some (.map (es ++ [(k,x)]))) (λp=>ob es[p.1]? λe=>bi (Nat.beq e.1.cells.length n) (some (.map (aN es k x p.1))) none) r:=rfl
theorem IC (f:El)(n:Nat)(k:d9):O5 f n k []=bi (Nat.beq (len' k.cells) n) (ob (f k k) λ_=>some none) none:=rfl
theorem EU (f:El)(n:Nat)(k:d9)(e:d9×d9)(es:List (d9×d9)):O5 f n k (e::es)=bi (Nat.beq (len' k.cells) n) (findKey f k (e::es) 0) none:=rfl
@[simp] theorem abI (f:OF)(b:List (Option Nat))(a d:P9)(cf:D7)(fu:Nat)(env:T d9)(m:Mem)(k:List Mk):Hf f b a d cf fu none env m k=MS cf (f [] env) b a d env (m.new .deferred) (.c m.nx::k):=id rfl
@[simp] theorem aeo (cf:D7)(f:FuncId)(a b:List d9)(params:List (Option Nat))(assign body:P9)(env:T d9)(m:Mem)(k:List Mk):MS cf (.func (.func f) a b) params assign body env m k =
  bnd (cf (.func f) (a++(.func (.yield m.nx) [] []::b)) (m.new (.loop .ready none env params assign body))) λr=>bW r.v (λ_=>none) <|
   nR (r.m.get m.nx) λst pend _ _ _ _=>match st with
    | .busy=>none
    | _=>match pend with
     | none=>mH .normal env (r.m.set m.nx .dead) k
     | some x=>mH x env (r.m.set m.nx .dead) k:=by
 show bnd (cf (.func f) (ah a (ah [.func (.yield m.nx) [] []] b)) _) _=_;rw [Q8,Q8];rfl
@[simp] theorem Dn {β:Type}(c:LoopState)(a:Option aT)(env:T d9)(ps:List (Option Nat))(b bd:P9)(f:LoopState->Option aT->T d9->List (Option Nat)->P9->P9->Option β):nR (some (.loop c a env ps b bd)) f=f c a env ps b bd:=id rfl
theorem Ya (a:iR)(rs:List nH)(env:T d9)(m:Mem)(id:Nat)(h:m.get id=some .deferred):leave a rs ⟨.ret,env,m,[.c id],none⟩=ob (results rs env (m.set id .dead)) λl=>some [⟨result l,m.set id .dead⟩]:=by show Tj (m.get id) _=_;rw [h];rfl
end Go.AM
namespace Go.AM
open Go
theorem wH {β:Type}{m:Mem}{id:Nat}(c:m.lim<=id)(off:Nat)(a:List d9)(k:Mem->Option β):storeAt m id off a k=bi (K4 a) (ob (Ga (m.get id) off a) λb=>k (m.set id b)) none:=by
 cases h1:K4 a with
 | true=>rw [jP c h1];rfl
 | false=>unfold storeAt;rw [h1];cases Nat.blt id m.lim<;>rfl
def IE (P:Program):List Field->Nat->Nat->Bool
 | [],o,n=>Nat.beq o n
 | f::fs,o,n=>Nat.beq f.offset o&&IE P fs (o+P.cellsOf f.type) n
section
variable {P:Program}{G:Mem}{hp:Array Obj}
theorem Mem.tH (m:Mem)(i:Nat):m.shut.get i=m.get i:=rfl
theorem RM.push {ι:H6}{m:Mem}(h:RM P G ι m hp)(s:m.lim=m.nx){b:N7}{l:Loc}(p:bF b=false)(hs:Q7 b=true->l.spot=none)
  (hb:bO P (ι.upd m.nx l) ((m.new b).nm (ι.upd m.nx l)) hp l b):RM P G (ι.upd m.nx l) (m.new b).shut hp:=by
 have c:∀i,(m.new b).shut.get i=if i=m.nx then some b else m.get i:=λi=>Mem.J9 h.ok b i
 have o:∀i x,m.get i=some x->i≠m.nx:=λi x a e=>by have:=Mem.F9 h.ok a;omega
 have d:∀j,m.has j->ι.upd m.nx l j=ι j:=λj ⟨x,a,_⟩=>ι.upd_ne l (o j x a);have g:∀i,m.has i->(m.new b).shut.has i:=λi ⟨x,a,p⟩=>⟨x,by rw [c,if_neg (o i x a)];exact a,p⟩;have r:G.nx<=m.nx:=J2 h.glim h.limn;refine⟨h.ok.push b,λi x a=>?_,λi x f a _=>?_,?_,lM _,h.gle,λi f=>?_,λi f=>g i (h.ghas i f),λi f=>?_,λi x a k=>?_,h.gsz⟩;rw [c] at a;split at a;rename_i e;subst e;cases a;rw [ι.S9];exact hb;rename_i e;rw [ι.upd_ne l e];exact (h.blk i x a).mono (n:=m.nm ι) d (Mem.U2 g d) λ_=>rfl;have q:=Mem.F9 (m:=(m.new b).shut) (h.ok.push b) a;have f:(m.new b).shut.nx<=i:=f;omega;show G.nx<=m.nx+1;omega;rw [c,if_neg (by omega)];exact h.base i f;rw [d i (h.ghas i f)];exact h.glob i f;rw [c] at a;split at a;rename_i e;subst e;cases a;rw [ι.S9];exact hs k;rename_i e;rw [ι.upd_ne l e];exact h.spot i x a k
structure Lifts (P:Program)(G:Mem)(hp:Array Obj)(ι:H6)(m:Mem)(ι':H6)(m':Mem):Prop where
 rm:RM P G ι' m' hp
 lim:m'.lim=m'.nx
 get:∀i b,m.get i=some b->m'.get i=some b
 ext:∀i,m.has i->ι' i=ι i
theorem Lifts.refl {ι:H6}{m:Mem}(h:RM P G ι m hp)(a:m.lim=m.nx):Lifts P G hp ι m ι m:=⟨h,a,λ_ _ h=>h,λ_ _=>rfl⟩
theorem Lifts.has {ι ι':H6}{m m':Mem}(h:Lifts P G hp ι m ι' m')(i:Nat)(c:m.has i):m'.has i:=by obtain⟨x,a,b⟩:=c;exact⟨x,h.get i x a,b⟩
theorem Lifts.trans {a c d:H6}{m1 f m3:Mem}(h:Lifts P G hp a m1 c f)(k:Lifts P G hp c f d m3):Lifts P G hp a m1 d m3:=
 ⟨k.rm,k.lim,λi b g=>k.get i b (h.get i b g),λi e=>(k.ext i (h.has i e)).trans (h.ext i e)⟩
theorem Lifts.l7 {ι ι':H6}{m m':Mem}(h:Lifts P G hp ι m ι' m'){vs:List d9}(a:X0 (m.nm ι) vs):o9 ι' vs=o9 ι vs:=dG (n:=m.nm ι) h.ext vs a
theorem Lifts.lt {ι ι':H6}{m m':Mem}(h:Lifts P G hp ι m ι' m'){vs:List d9}(a:X0 (m.nm ι) vs):X0 (m'.nm ι') vs:=bN (Mem.U2 h.has h.ext) vs a
theorem Lifts.push {ι:H6}{m:Mem}(h:RM P G ι m hp)(d:m.lim=m.nx){b:N7}{l:Loc}(f:bF b=false)(hs:Q7 b=true->l.spot=none)
  (hb:bO P (ι.upd m.nx l) ((m.new b).nm (ι.upd m.nx l)) hp l b):Lifts P G hp ι m (ι.upd m.nx l) (m.new b).shut:=by
 have c:∀i x,m.get i=some x->i≠m.nx:=λi x a e=>by have:=Mem.F9 h.ok a;omega
 exact⟨h.push d f hs hb,rfl,λi x a=>by rw [Mem.tH,Mem.J9 h.ok,if_neg (c i x a)];exact a,λj ⟨x,a,_⟩=>ι.upd_ne l (c j x a)⟩
def Gets (P:Program)(G:Mem)(hp:Array Obj)(ι:H6)(m:Mem)(cs:List Value)(S:Mem->List d9->Prop):Prop:=
 ∃ι' m' vs,Lifts P G hp ι m ι' m'∧o9 ι' vs=cs∧X0 (m'.nm ι') vs∧S m' vs
variable {H:Type}{enc:TypeId×Value->H}{w:World}{held:Bool}
end
end Go.AM
