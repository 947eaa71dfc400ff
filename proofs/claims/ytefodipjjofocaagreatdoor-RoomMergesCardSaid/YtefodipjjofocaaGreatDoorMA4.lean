/- A part of an evaluator for the model, proved sound: what it answers holds of the model; it speaks of every program, no condition. -/
import Derived.Test.YtefodipjjofocaaGreatDoorMA3
import Derived.RecoverIn
import Derived.Deep.Slices
set_option linter.unusedSimpArgs false
set_option linter.unusedVariables false
namespace Go.AM
open Go
theorem iV {α:Type}{f:α→Option Nat}:∀{l:List α},(l.filterMap f).Nodup→∀{i j:Nat} {x y:α} {t:Nat},l[i]?=some x→l[j]?=some y→f x=some t→f y=some t→i=j
 | [],_,i,j,x,y,t,hi,_,_,_=>by simp at hi
 | z::l,h,i,j,x,y,t,hi,hj,hx,hy=>by
  have hmem:∀{k:Nat} {u:α},l[k]?=some u→f u=some t→t∈l.filterMap f:=fun hk hu=>List.mem_filterMap.2 ⟨_,List.mem_of_getElem? hk,hu⟩
  cases hz:f z with
  | none=>
   rw [List.filterMap_cons_none hz] at h
   cases i with
   | zero=>simp at hi;subst hi;rw [hz] at hx;cases hx
   | succ i=>
    cases j with
    | zero=>simp at hj;subst hj;rw [hz] at hy;cases hy
    | succ j=>exact congrArg Nat.succ (iV h (i:=i) (j:=j) (by simpa using hi) (by simpa using hj) hx hy)
  | some u=>
   rw [List.filterMap_cons_some hz] at h
   obtain⟨h1,h2⟩:=List.nodup_cons.1 h
   cases i with
   | zero=>
    simp at hi;subst hi
    rw [hz] at hx;cases hx
    cases j with
    | zero=>rfl
    | succ j=>exact absurd (hmem (by simpa using hj) hy) h1
   | succ i=>
    cases j with
    | zero=>
     simp at hj;subst hj
     rw [hz] at hy;cases hy
     exact absurd (hmem (by simpa using hi) hx) h1
    | succ j=>exact congrArg Nat.succ (iV h2 (i:=i) (j:=j) (by simpa using hi) (by simpa using hj) hx hy)
section
variable {P:Program}{G:Mem}{slots:List Nat}{nt:Nat}{cf:L8}{ops:Array Oper}
theorem xO {α:Type}(l:List α)(p k:Nat)(hp:p≤l.length)(hk:k<p):(l.take p).reverse[k]?=l[p-1-k]?:=by
 rw [List.getElem?_reverse (by simp;omega),List.length_take,List.getElem?_take,if_pos (by omega)]
 congr 1;omega
theorem Nn {ord:List Nat}{X:Nat→Nat×Inst}{insts:List Inst}(hlen:insts.length=ord.length)(hX:∀p x,insts[p]?=some x→(X p).2=x):∀p,p≤ord.length→
  BR ord X p=(((((ord.zip insts).take p).filter fun y=>isE y.2).map (·.1)).reverse):=by
 intro p
 induction p with
 | zero=>intro _;rfl
 | succ p ih=>
  intro hp
  have h1:p<(ord.zip insts).length:=by rw [List.length_zip];omega
  have h2:(ord.zip insts)[p]=(ord[p]'(by omega),insts[p]'(by omega)):=List.getElem_zip ..
  rw [List.take_succ_eq_append_getElem h1,List.filter_append,List.map_append,List.reverse_append,← ih (by omega)]
  have h3:(X p).2=insts[p]'(by omega):=hX p _ (List.getElem?_eq_getElem (by omega))
  have h4:ord.getD p 0=ord[p]'(by omega):=by rw [List.getD_eq_getElem?_getD,List.getElem?_eq_getElem (by omega)];rfl
  simp only [BR,h2,h3,h4]
  cases he:isE (insts[p]'(by omega))<;>simp [he]
theorem sD {α:Type}(f:α→Bool)(l:List α){p q:Nat}(hpq:p<q)(hp:p<l.length)(hf:f l[p]=true):((l.take p).filter f).length<((l.take q).filter f).length:=by
 have h1:l.take (p+1)=(l.take q).take (p+1):=by rw [List.take_take];congr 1;omega
 have h2:((l.take (p+1)).filter f).length≤((l.take q).filter f).length:=by
  rw [h1]
  exact ((List.take_sublist _ _).filter f).length_le
 rw [List.take_succ_eq_append_getElem hp,List.filter_append] at h2
 simp [hf] at h2
 omega
theorem JL {n:Nat}{l:List (Nat×Inst)}(hcl:CK P slots ops=some (.dreg n l))(hin:∀(i:Nat)(o:Oper)(t:Tmp),ops[i]?=some o→o.dst=some t→t<nt){b:Nat}{S:Nat→DS}(hls:(S 0).ls=[])(hgs:(S 0).gs=[(S 0).m])(hst:∀p x,l[p]?=some x→DStep cf b x (S p) (S (p+1))):
  ∃ord X,Fixed P slots nt cf b ops ord X S∧l.length=ord.length:=by
 unfold CK at hcl
 split at hcl
 ·cases hcl
 ·rename_i insts hci
  split at hcl
  ·rename_i hok
   cases hcl
   generalize hord:canon (Jj ops) (masks ops.toList) ops.size=ord at *
   simp only [KQ,Bool.and_eq_true] at hok
   obtain⟨⟨⟨⟨c1,c2⟩,c3⟩,c4⟩,c5⟩:=hok
   obtain⟨hlen,hat⟩:=FC _ _ _ hci
   obtain⟨hnl,hnum⟩:=Az (masks ops.toList) (ord.zip insts) [] 0
   have hzl:(ord.zip insts).length=ord.length:=by rw [List.length_zip];omega
   generalize hl:numbered (masks ops.toList) (ord.zip insts) [] 0=l at *
   have hz:∀p i x,ord[p]?=some i→insts[p]?=some x→(ord.zip insts)[p]?=some (i,x):=fun p i x h1 h2=>by rw [List.getElem?_zip_eq_some];exact⟨h1,h2⟩
   have hX:∀p i,ord[p]?=some i→∃x o,insts[p]?=some x∧ops[i]?=some o∧ED P slots (eU ops ord p) ops i=some (x,o.dst)∧(l.getD p default).2=x∧l[p]?=some (l.getD p default):=by
    intro p i hp
    obtain⟨x,o,h1,h2,h3⟩:=hat p i hp
    obtain⟨c,h4,_⟩:=hnum p i x (hz p i x hp h1)
    refine⟨x,o,h1,h2,by simpa using h3,by rw [List.getD_eq_getElem?_getD,h4];rfl,by rw [List.getD_eq_getElem?_getD,h4];rfl⟩
   have hlt:∀i∈ord,i<ops.size:=fun i hi=>Eq.mp Nat.blt_eq (List.all_eq_true.1 c2 i hi)
   have hchk:∀p i x,ord[p]?=some i→insts[p]?=some x→oz (masks ops.toList) ops i x ((ord.zip insts).take p).reverse=true:=fun p i x h1 h2=>by
    have:=BP c5 p (i,x) (hz p i x h1 h2)
    simpa using this
   have hbef:∀p q j,q<p→p≤ord.length→ord[q]?=some j→∃x,(j,x)∈((ord.zip insts).take p).reverse∧insts[q]?=some x:=fun p q j hq hp hj=>by
    obtain⟨x,_,h1,_⟩:=hX q j hj
    refine⟨x,List.mem_reverse.2 ?_,h1⟩
    refine List.mem_of_getElem? (i:=q) ?_
    rw [List.getElem?_take,if_pos hq];exact hz q j x hj h1
   have hopd:∀p i,p<ord.length→ord[p]?=some i→∀y,Jk (masks ops.toList) i ((ord.zip insts).take p).reverse y=true→JG ops ord (fun p=>l.getD p default) p i y:=by
    intro p i hp hi y hy
    cases y with
    | con c=>trivial
    | loc k=>
     simp only [Jk] at hy
     split at hy
     ·rename_i z hz'
      have hk:k<p:=by
       have:=(List.getElem?_eq_some_iff.1 hz').1
       simp at this;omega
      rw [xO _ _ _ (by omega) hk] at hz'
      obtain⟨h1,_⟩:=List.getElem?_zip_eq_some.1 hz'
      exact⟨z.1,hk,h1,iG ops i z.1 hy⟩
     ·cases hy
    | slot j=>
     intro q hq e
     obtain⟨x,hm,hx⟩:=hbef p q (ord[q]'(by omega)) hq (by omega) (List.getElem?_eq_getElem (by omega))
     obtain⟨x',o',h1,_,_,h2,_⟩:=hX q (ord[q]'(by omega)) (List.getElem?_eq_getElem (by omega))
     rw [hx] at h1;cases h1
     have:=List.all_eq_true.1 hy _ hm
     rw [h2] at e
     simp [e] at this
   refine⟨ord,fun p=>l.getD p default,⟨nR c1,fun i hi=>?_,hlt,fun p i hp=>?_,fun p hp=>?_,fun p i hp hE q j hq hj=>?_,fun p i o hp ho e he hb=>?_,fun i j oi oj t hi hj h1 h2=>?_,fun i o t ho ht q oq hq hne hqt=>?_,fun p i hp y hy=>?_,
    fun p i y wt hp hg=>?_,fun p i o hp ho=>?_,fun p q o o' hpq hq ho ho'=>?_,hin,hgs,hls⟩,by rw [hnl,hzl]⟩
   ·have:=List.all_eq_true.1 c3 i (List.mem_range.2 hi)
    simpa using this
   ·obtain⟨x,o,h1,h2,h3,h4,_⟩:=hX p i hp
    obtain⟨o',g1,g2,g3,g4,g5⟩:=mU h3
    rw [h2] at g1;cases g1
    exact⟨o,h2,by show (l.getD p default).2.op=_;rw [h4];exact g3,by show (l.getD p default).2.dst=_;rw [h4];exact g4,by show iR _ _ _ (l.getD p default).2.guard;rw [h4];exact g5⟩
   ·obtain⟨x,o,_,_,_,_,h5⟩:=hX p (ord[p]) (List.getElem?_eq_getElem hp)
    exact hst p _ h5
   ·obtain⟨x,o,h1,h2,h3,h4,_⟩:=hX p i hp
    have hE:isE (l.getD p default).2=true:=hE
    rw [h4] at hE
    have hc:=hchk p i x hp h1
    simp only [oz,Bool.and_eq_true] at hc
    have hc:=hc.1.1.1
    unfold isE at hE
    split at hE
    ·rename_i eo heo
     rw [heo] at hc
     obtain⟨x',hm,_⟩:=hbef p q j hq (by have:=(List.getElem?_eq_some_iff.1 hp).1;omega) hj
     exact iG ops i j (List.all_eq_true.1 hc _ hm)
    ·cases hE
   ·obtain⟨x,o',h1,h2,h3,h4,_⟩:=hX p i hp
    have hc:=hchk p i x hp h1
    simp only [oz,Bool.and_eq_true] at hc
    have hc:=hc.1.1.2
    rw [ho] at hc
    simp only [Bool.and_eq_true] at hc
    have:=List.all_eq_true.1 hc.1 e (by simpa using he)
    rw [hb] at this
    simp only [Bool.not_true,Bool.false_or] at this
    obtain⟨y,hy,hye⟩:=List.any_eq_true.1 this
    obtain⟨q,hq⟩:=List.getElem?_of_mem (List.mem_reverse.1 hy)
    rw [List.getElem?_take] at hq
    split at hq
    ·rename_i hqp
     obtain⟨g1,_⟩:=List.getElem?_zip_eq_some.1 hq
     exact⟨q,hqp,by rw [g1];simpa using hye⟩
    ·cases hq
   ·exact iV (nR c4) (by simpa using hi) (by simpa using hj) h1 h2
   ·obtain⟨p,hp⟩:=List.getElem?_of_mem (show i∈ord from by have:=List.all_eq_true.1 c3 i (List.mem_range.2 (Array.getElem?_eq_some_iff.1 ho).1);simpa using this)
    obtain⟨x,o',h1,h2,h3,h4,_⟩:=hX p i hp
    have hc:=hchk p i x hp h1
    simp only [oz,Bool.and_eq_true] at hc
    have hc:=hc.1.1.2
    rw [ho] at hc
    simp only [Bool.and_eq_true] at hc
    have:=List.all_eq_true.1 (List.all_eq_true.1 hc.2 t ht) q (List.mem_range.2 (Array.getElem?_eq_some_iff.1 hq).1)
    rw [hq] at this
    simp only [hqt,bne_self_eq_false,Bool.or_false,Bool.or_eq_true,beq_iff_eq] at this
    rcases this with (h | h) | h
    ·exact absurd h hne
    ·exact .inl (iG ops i q h)
    ·exact .inr (iG ops q i h)
   ·obtain⟨x,o',h1,h2,h3,h4,_⟩:=hX p i hp
    have hc:=hchk p i x hp h1
    simp only [oz,Bool.and_eq_true] at hc
    have hy:y∈TV (l.getD p default).2.op:=hy
    rw [h4] at hy
    exact hopd p i (List.getElem?_eq_some_iff.1 hp).1 hp y (List.all_eq_true.1 hc.1.2 y hy)
   ·obtain⟨x,o',h1,h2,h3,h4,_⟩:=hX p i hp
    have hc:=hchk p i x hp h1
    simp only [oz,Bool.and_eq_true] at hc
    have hg:(l.getD p default).2.guard=some (y,wt):=hg
    rw [h4] at hg
    have hc:=hc.2
    rw [hg] at hc
    exact hopd p i (List.getElem?_eq_some_iff.1 hp).1 hp y hc
   ·obtain⟨x,o',h1,h2,h3,h4,h5⟩:=hX p i hp
    obtain⟨c,g1,g2,_⟩:=hnum p i x (hz p i x hp h1)
    have ho:(l.getD p default).2.op=.r o:=ho
    rw [h4] at ho
    have hc:(l.getD p default).1=c:=by rw [List.getD_eq_getElem?_getD,g1];rfl
    show (l.getD p default).1=_
    rw [hc,g2 (by simp [isR,ho]),List.append_nil,Nn hlen (fun p x hp'=>?_) p (Nat.le_of_lt (List.getElem?_eq_some_iff.1 hp).1)]
    have hpl:p<ord.length:=by have:=(List.getElem?_eq_some_iff.1 hp').1;omega
    obtain⟨x',_,g3,_,_,g4,_⟩:=hX p (ord[p]) (List.getElem?_eq_getElem hpl)
    rw [hp'] at g3;cases g3;exact g4
   ·have hp:p<ord.length:=by omega
    obtain⟨x,o1,h1,h2,h3,h4,h5⟩:=hX p (ord[p]) (List.getElem?_eq_getElem hp)
    obtain⟨y,o2,k1,k2,k3,k4,k5⟩:=hX q (ord[q]) (List.getElem?_eq_getElem hq)
    obtain⟨c,g1,_,g2⟩:=hnum p _ x (hz p _ x (List.getElem?_eq_getElem hp) h1)
    obtain⟨c',g3,_,g4⟩:=hnum q _ y (hz q _ y (List.getElem?_eq_getElem hq) k1)
    have ho:(l.getD p default).2.op=.a o:=ho
    have ho':(l.getD q default).2.op=.a o':=ho'
    rw [h4] at ho;rw [k4] at ho'
    show (l.getD p default).1<(l.getD q default).1
    rw [show (l.getD p default).1=c from by rw [List.getD_eq_getElem?_getD,g1];rfl,show (l.getD q default).1=c' from by rw [List.getD_eq_getElem?_getD,g3];rfl,g2 (by simp [isR,ho]),g4 (by simp [isR,ho'])]
    have hzp:(ord.zip insts)[p]'(by rw [hzl];exact hp)=(ord[p],x):=by
     have:=hz p _ x (List.getElem?_eq_getElem hp) h1
     rw [List.getElem?_eq_getElem (by rw [hzl];exact hp)] at this
     exact Option.some.inj this
    have:=sD (fun y:Nat×Inst=>isA y.2) (ord.zip insts) hpq (by rw [hzl];exact hp) (by rw [hzp];simp [isA,ho])
    omega
  ·cases hcl
def Dk (n:Nat)(listed:Array Bool):Nat:=((List.range n).filter fun i=>!listed.getD i false).length
theorem FI {listed:Array Bool}{n i:Nat}(hn:listed.size=n)(hi:i<n)(hun:listed.getD i false=false):Dk n (listed.setIfInBounds i true)+1=Dk n listed:=by
 unfold Dk
 have key:∀l:List Nat,l.Nodup→(l.filter fun j=>!(listed.setIfInBounds i true).getD j false).length+(if i∈l then 1 else 0)=(l.filter fun j=>!listed.getD j false).length:=by
  intro l
  induction l with
  | nil=>intro _;simp
  | cons x l ih=>
   intro h
   obtain⟨h1,h2⟩:=List.nodup_cons.1 h
   have:=ih h2
   by_cases hx:x=i
   ·subst hx
    rw [if_neg h1] at this
    rw [if_pos (by simp),List.filter_cons_of_neg (by rw [gU _ _ _ (by omega),if_pos rfl];simp),List.filter_cons_of_pos (by rw [hun];rfl),List.length_cons]
    omega
   ·have e:(listed.setIfInBounds i true).getD x false=listed.getD x false:=by rw [gU _ _ _ (by omega),if_neg hx]
    have hmem:(i∈x::l)↔i∈l:=List.mem_cons.trans ⟨fun h=>h.resolve_left (fun e=>hx e.symm),.inr⟩
    simp only [hmem]
    cases hl:listed.getD x false with
    | true=>rw [List.filter_cons_of_neg (by rw [e,hl];simp),List.filter_cons_of_neg (by rw [hl];simp)];exact this
    | false=>rw [List.filter_cons_of_pos (by rw [e,hl];rfl),List.filter_cons_of_pos (by rw [hl];rfl),List.length_cons,List.length_cons];omega
 have:=key (List.range n) List.nodup_range
 rw [if_pos (List.mem_range.2 hi)] at this
 exact this
theorem JM {b:Nat}{ord:List Nat}{X:Nat→Nat×Inst}{S:Nat→DS}{listed:Array Bool}(F:Fixed P slots nt cf b ops ord X S)(hall:∀p,p<ord.length→Lp ord listed p=true):∀p,p≤ord.length→IQ ord X S listed p=(S p).env:=by
 intro p
 induction p with
 | zero=>intro _;rfl
 | succ p ih=>
  intro hp
  obtain⟨_,h2⟩:=F.ls (p:=p) (by omega)
  rw [h2,← ih (by omega)]
  show trD (X p).2.dst (vm ord S listed p) _=_
  simp [vm,hall p (by omega)]
theorem aL.Np {ι:Inj}{n:Nm}{env:T o8}{A B:Array Value}(h:aL ι n slots env A)(hs:A.size=B.size)(he:∀t,A.getD t undef=B.getD t undef):aL ι n slots env B:=
 ⟨h.ok,h.small,fun t j ht=>by
  obtain⟨h1,v,h2,h3,h4⟩:=h.val t j ht
  exact⟨by omega,v,h2,h3,by rw [← he];exact h4⟩⟩
theorem iI (hmix:P.follows .mixedOrders=true)(hcf:tK P G cf)(slots:List Nat)(nt:Nat)(r:Option Nat):fV P G slots nt cf r:=by
 intro id ops n l hcl hin Q env m ι w a outs hm hen hnt hv hQ
 obtain⟨S,hS0,hstep,hout⟩:=Dj l ⟨[],env,reserve n m,[reserve n m]⟩ outs hv
 obtain⟨ord,X,F,hll⟩:=JL (cf:=cf) (b:=m.next) (S:=S) hcl hin (by rw [hS0]) (by rw [hS0]) hstep
 refine wpIn_region_any hmix ?_
 have hb:m.lim≤m.next:=hm.limn
 have hen0:aL ι (m.nm ι) slots (S 0).env a.tmps:=by rw [hS0];exact hen
 have main:∀(fuel:Nat) (listed:Array Bool) (a':Act) (w':World) (ι':Inj) (q:Nat),qR P G m.next ops ord X S ι m w a listed a' w' ι' q→Dk ops.size listed=fuel→
   wpAnyIn (FR r) 0 P .any ops Q fuel listed a' w':=by
  intro fuel
  induction fuel with
  | zero=>
   intro listed a' w' ι' q D hleft
   have hall:∀i,i<ops.size→listed.getD i false=true:=fun i hi=>by
    cases hl:listed.getD i false with
    | true=>rfl
    | false=>
     have:i∈(List.range ops.size).filter fun i=>!listed.getD i false:=List.mem_filter.2 ⟨List.mem_range.2 hi,by rw [hl];rfl⟩
     rw [List.length_eq_zero_iff.1 hleft] at this
     cases this
   have hL:∀p,p<ord.length→Lp ord listed p=true:=fun p hp=>by
    rw [qU (List.getElem?_eq_getElem hp)];exact hall _ (F.lt _ (List.getElem_mem hp))
   refine⟨?_,?_⟩
   ·unfold Region.ready
    refine List.filter_eq_nil_iff.2 fun i hi=>?_
    have hi:=List.mem_range.1 hi
    have h1:listed.getD i true=true:=by
     have:=hall i hi
     rw [Array.getD_eq_getD_getElem?,Array.getElem?_eq_getElem (by rw [D.len];exact hi)] at this ⊢
     exact this
    simp [h1]
   ·have hq:=D.hq
    have hfin:=F.lay_all (q:=q) (L:=Lp ord listed) (ord.length-q) (by omega) fun k hk=>⟨hL _ (by omega),by
     cases he:isE (X (q+k)).2 with
     | false=>rfl
     | true=>have:=D.high (q+k) (by omega) he;rw [hL _ (by omega)] at this;cases this⟩
    rw [show q+(ord.length-q)=ord.length from by omega] at hfin
    have hst:=D.lay F hb (ord.length-q) (by omega)
    have s:=D.st F hb hen0 hnt (ord.length-q) (by omega) ord.length (by omega)
    rw [hfin] at hst s
    have henv:=s.env
    rw [JM F hL ord.length (Nat.le_refl _)] at henv
    refine hQ ⟨(S ord.length).env,(S ord.length).m,none,[]⟩ (by rw [hout,← hll];exact List.mem_singleton.2 rfl) rfl rfl ι' w' a' hst (henv.Np (by rw [kP,D.sz]) fun t=>?_) D.defs D.sz
    by_cases hw:∃(i:Nat) (o:Oper),ops[i]?=some o∧o.dst=some t
    ·obtain⟨i,o,ho,ht⟩:=hw
     obtain⟨p,hp⟩:=List.getElem?_of_mem (F.all i (Array.getElem?_eq_some_iff.1 ho).1)
     have hpl:=(List.getElem?_eq_some_iff.1 hp).1
     rw [D.tw p i o t hp (hall i (Array.getElem?_eq_some_iff.1 ho).1) ho ht,BS F hnt hp ho ht ord.length hpl]
     simp [vm,hL p hpl]
    ·rw [D.tn t fun i o _ ho ht=>hw ⟨i,o,ho,ht⟩,vF ord.length fun r i o _ _ ho ht=>hw ⟨i,o,ho,ht⟩]
  | succ fuel ih=>
   intro listed a' w' ι' q D hleft
   refine⟨fun hnil=>?_,fun i hi=>?_⟩
   ·
    exfalso
    have hex:∃p,p<ord.length∧Lp ord listed p=false:=by
     have:((List.range ops.size).filter fun i=>!listed.getD i false)≠[]:=fun e=>by unfold Dk at hleft;rw [e] at hleft;cases hleft
     obtain⟨i,hi⟩:=List.exists_mem_of_ne_nil _ this
     obtain⟨h1,h2⟩:=List.mem_filter.1 hi
     obtain⟨p,hp⟩:=List.getElem?_of_mem (F.all i (List.mem_range.1 h1))
     exact⟨p,(List.getElem?_eq_some_iff.1 hp).1,by rw [qU hp];simpa using h2⟩
    have hmin:∀N,(∃p,p<N∧p<ord.length∧Lp ord listed p=false)→∃p,p<ord.length∧Lp ord listed p=false∧∀q,q<p→Lp ord listed q=true:=by
     intro N
     induction N with
     | zero=>rintro⟨p,h,_⟩;omega
     | succ N ihN=>
      rintro⟨p,h1,h2,h3⟩
      by_cases hx:∃p,p<N∧p<ord.length∧Lp ord listed p=false
      ·exact ihN hx
      ·refine⟨p,h2,h3,fun q hq=>?_⟩
       cases hl:Lp ord listed q with
       | true=>rfl
       | false=>exact absurd ⟨q,by omega,by omega,hl⟩ hx
    obtain⟨p0,hp0,hp1⟩:=hex
    obtain⟨p,h1,h2,h3⟩:=hmin (p0+1) ⟨p0,by omega,hp0,hp1⟩
    have hp:=List.getElem?_eq_getElem h1
    have hmem:ord[p]∈Region.ready .any ops listed:=by
     obtain⟨o,ho,_⟩:=F.inst p _ hp
     refine mem_ready.2 ⟨?_,o,ho,fun e he hbnd=>?_⟩
     ·rw [qU hp] at h2
      have hlt:ord[p]<listed.size:=by rw [D.len];exact F.lt _ (List.getElem_mem h1)
      rw [Array.getD_eq_getD_getElem?,Array.getElem?_eq_getElem hlt] at h2 ⊢
      exact h2
     ·obtain⟨q',hq',hq2⟩:=F.edges p _ o hp ho e he hbnd
      have:=h3 q' hq'
      rw [qU hq2] at this;exact this
    rw [hnil] at hmem;cases hmem
   ·obtain⟨hun,o,ho,hr⟩:=mem_ready.1 hi
    have hlt:i<listed.size:=by rw [D.len];exact (Array.getElem?_eq_some_iff.1 ho).1
    have hun:listed.getD i false=false:=by
     rw [Array.getD_eq_getD_getElem?,Array.getElem?_eq_getElem hlt] at hun ⊢
     exact hun
    refine qR.op hcf F hb hen0 hnt D ho hun hr fun a2 w2 ι2 q2 D2=>?_
    refine ih _ a2 w2 ι2 q2 D2 ?_
    have:=FI D.len (by rw [← D.len];exact hlt) hun
    omega
 have hst0:Step P G ι m w ι (reserve n m) {w with drawn:=w.drawn+1}:=(Step.drew hm _).trans (oU n (Step.drew hm (w.drawn+1)).rm)
 have hget:∀i,(Array.replicate ops.size false).getD i false=false:=fun i=>by
  rw [Array.getD_eq_getD_getElem?,Array.getElem?_replicate];split<;>rfl
 have hL0:∀p,Lp ord (Array.replicate ops.size false) p=false:=fun p=>by
  unfold Lp
  split
  ·exact hget _
  ·rfl
 refine main _ _ a _ ι 0 ⟨Nat.zero_le _,.inl rfl,fun p hp=>by omega,fun p _ _=>hL0 p,by rw [hS0];exact hst0,(fun d i blk h=>by rw [hL0] at h;cases h),(fun d d' i i' blk blk' _ h=>by rw [hL0] at h;cases h),
  (fun d h=>by rw [hL0] at h;cases h),(fun p hp=>by omega),(fun p i o t _ h=>by rw [hget] at h;cases h),fun t _=>rfl,rfl,rfl,(fun i o h=>by rw [hget] at h;cases h),by simp⟩ ?_
 unfold Dk
 rw [List.filter_eq_self.2 (fun i _=>by rw [hget];rfl),List.length_range]
end
end Go.AM
namespace Go.AM
open Go
section
variable {P:Program}{G:Mem}{ι:Inj}{n:Nm}{m:Mem}{w:World}{slots:List Nat}
def nT (ι:Inj):Option o8→FrameMode→Prop
 | some x,u=>u=.panicking [{v:=I4 ι x,recovered:=false}]
 | none,u=>u=.returning∨∃v,u=.panicking [{v,recovered:=true}]
theorem nT.settle {md:Option o8}{u:FrameMode}(h:nT ι md u):Go.settle u=Aw ι md:=by
 cases md with
 | some x=>obtain rfl:u=_:=h;rfl
 | none=>rcases h with rfl | ⟨v,rfl⟩<;>rfl
theorem nT.of {md:Option o8}:nT ι md (Aw ι md):=by
 cases md with
 | some x=>rfl
 | none=>exact .inl rfl
theorem nT.step {ι':Inj}{m':Mem}{w':World}{md:Option o8}{u:FrameMode}(h:nT ι md u)(hmd:Dg ι m md)(hst:Step P G ι m w ι' m' w'):nT ι' md u:=by
 cases md with
 | some x=>
  have h:u=_:=h
  have:=hst.I4 (hmd x rfl)
  show u=.panicking [{v:=I4 ι' x,recovered:=false}]
  rw [this];exact h
 | none=>exact h
theorem FJ (i:Inst)(l:List Inst)(cf:L8)(ls:List o8)(env:T o8)(m:Mem)(md:Option o8):
  zO (i::l) cf ls env m md=match isRec i with
   | true=>match md with
    | some x=>zO l cf (x::ls) (trD i.dst x env) m none
    | none=>zO l cf (.nilIface::ls) (trD i.dst .nilIface env) m none
   | false=>match i.op with
    | .p o=>ob (Ji i.guard (trP o) ls env) fun v=>zO l cf (v::ls) (trD i.dst v env) m md
    | .r o=>ob (Eu i.guard (trR o) ls env m) fun v=>zO l cf (v::ls) (trD i.dst v env) m md
    | _=>none:=rfl
theorem mY {ops:Array Oper}{o:Oper}{i:Nat}{rest:List Nat}(ho:ops[i]?=some o){done:List (Option Nat)}{ls:List o8}{env:T o8}{a:Act}{cs:List Frame}{Q:Exit→Act→List Frame→World→Prop}
  (s:St P ι n slots done ls env a.tmps) {g:Option (Opd×Bool)} (hg:iR ops done o.guard g) {v u:o8} (hu:u=bi (Aq g ls env) v .undef)
  (hrun:Aq g ls env=true→(execOp a.eval o).run P w=.ok (.value (I4 ι v)) w) (h:wpOpsSIn Fence.wide 0 P ops Q rest (a.put o.dst (I4 ι u)) cs w):
  wpOpsSIn Fence.wide 0 P ops Q (i::rest) a cs w:=by
 simp only [wpOpsSIn,ho]
 refine⟨fun _ _=>trivial,?_⟩
 rw [jQ s hg]
 cases hb:Aq g ls env with
 | true=>
  rw [hb] at hu
  obtain rfl:u=v:=hu
  simp only [if_true]
  rw [hrun hb]
  exact h
 | false=>
  rw [hb] at hu
  obtain rfl:u=.undef:=hu
  rw [fH] at h
  simp only [Bool.false_eq_true,if_false]
  exact h
theorem Nq (g:Option (Opd×Bool))(f:PF)(ls:List o8)(env:T o8):Ji g f ls env=bi (Aq g ls env) (f ls env) (some .undef):=by
 cases g<;>rfl
theorem Nr (g:Option (Opd×Bool))(f:RF)(ls:List o8)(env:T o8)(m:Mem):Eu g f ls env m=bi (Aq g ls env) (f ls env m) (some .undef):=by
 cases g<;>rfl
theorem UZ {done:List (Option Nat)}{op:Op}{po:POp}(h:.p po=rQ P slots done op):cOp P slots done op=some (.p po):=by
 unfold rQ at h
 split at h
 ·rename_i ao hao;rw [hao,← h]
 ·cases h
theorem Va {done:List (Option Nat)}{op:Op}{ro:ROp}(h:.r ro=rQ P slots done op):cOp P slots done op=some (.r ro):=by
 unfold rQ at h
 split at h
 ·rename_i ao hao;rw [hao,← h]
 ·cases h
theorem JN {done:List (Option Nat)}{op:Op}(h:.e .recover=rQ P slots done op):cOp P slots done op=some (.e .recover):=by
 unfold rQ at h
 split at h
 ·rename_i ao hao;rw [hao,← h]
 ·cases h
theorem JO {i:Inst}(h:isRec i=true):i.op=.e .recover∧i.guard=none:=by
 unfold isRec at h
 split at h
 ·exact⟨by assumption,by assumption⟩
 ·cases h
theorem Dl {cf:L8}{ops:Array Oper}{nt:Nat}(hin:∀(i:Nat)(o:Oper)(t:Tmp),ops[i]?=some o→o.dst=some t→t<nt){Q:Exit→Act→List Frame→World→Prop}{c₀:Frame}{cs:List Frame}
  (hm:RM P G ι m w.heap):
  ∀(l:List Nat) (done:List (Option Nat)) (insts:List Inst),jh P slots ops done l=some insts→∀(ls:List o8) (env:T o8) (md:Option o8) (u:FrameMode) (a:Act) (outs:List (EM×Option o8)),
   nt≤a.tmps.size→St P ι (m.nm ι) slots done ls env a.tmps→Dg ι m md→nT ι md u→zO insts cf ls env m md=some outs→
   (∀r∈outs,∀u' a',r.1.m=m→aL ι (m.nm ι) slots r.1.env a'.tmps→a'.defers=a.defers→a'.tmps.size=a.tmps.size→Dg ι m r.2→nT ι r.2 u'→Q .normal a' ({c₀ with mode:=u'}::cs) w)→
   wpOpsSIn Fence.wide 0 P ops Q l a ({c₀ with mode:=u}::cs) w:=by
 intro l
 induction l with
 | nil=>
  intro done insts hc ls env md u a outs hnt s hmd hrel hv hQ
  simp only [jh,Option.some.injEq] at hc;subst hc
  have hv:some [((⟨env,m,none,[]⟩:EM),md)]=some outs:=by rw [← hv,zO]
  cases hv
  exact hQ _ (List.mem_singleton.2 rfl) u a rfl s.env rfl rfl hmd hrel
 | cons i rest ih=>
  intro done insts hc ls env md u a outs hnt s hmd hrel hv hQ
  obtain⟨x,d,l,hx,hl,rfl⟩:=iT hc
  obtain⟨o,h1,rfl,h2,h3,h4⟩:=mU hx
  rw [FJ] at hv
  have step:∀(v:o8) (md':Option o8) (u':FrameMode),v.lt (m.nm ι)→Dg ι m md'→nT ι md' u'→zO l cf (v::ls) (trD x.dst v env) m md'=some outs→
    wpOpsSIn Fence.wide 0 P ops Q rest (a.put o.dst (I4 ι v)) ({c₀ with mode:=u'}::cs) w:=by
   intro v md' u' hlt hmd' hrel' hv
   rw [h3] at hv
   have s':=s.put o.dst (fun t ht=>Nat.lt_of_lt_of_le (hin i o t h1 ht) hnt) hlt
   refine ih _ _ hl _ _ md' u' (a.put o.dst (I4 ι v)) outs (by rw [bW];exact hnt) (by rw [(iQ a o.dst (I4 ι v)).1];exact s') hmd' hrel' hv ?_
   intro r hr u'' a' e1 e2 e3 e4 e5 e6
   exact hQ r hr u'' a' e1 e2 (by rw [e3,(iQ a o.dst _).2]) (e4.trans (bW a o.dst _)) e5 e6
  cases hr:isRec x with
  | true=>
   rw [hr] at hv
   obtain⟨g1,g2⟩:=JO hr
   rw [g1] at h2
   rw [g2] at h4
   have hop:=JN h2
   have hw:Region.wanted o (yielded ops a.tmps)=true:=by rw [jQ s h4];rfl
   have hrun:(execOp a.eval o).run P w=.ok .recover w:=by
    cases ho:o.op with
    | call c=>
     rw [ho] at hop
     cases qH hop with
     | recover hcal=>simp [execOp,ho,resolve,hcal,invoke,builtin]
    | _=>rw [ho] at hop;cases qH hop
   simp only [wpOpsSIn,h1]
   refine⟨fun _ _=>trivial,?_⟩
   rw [hw,if_pos rfl,hrun]
   cases md with
   | some y=>
    obtain rfl:u=.panicking [{v:=I4 ι y,recovered:=false}]:=hrel
    exact step y none (.panicking [{v:=I4 ι y,recovered:=true}]) (hmd y rfl) (fun _ h=>by cases h) (.inr ⟨_,rfl⟩) hv
   | none=>
    have hrec:recoverD ({c₀ with mode:=u}::cs)=none:=by
     rcases hrel with rfl | ⟨v,rfl⟩<;>rfl
    show (match recoverD ({c₀ with mode:=u}::cs) with
     | some (v,cs')=>wpOpsSIn Fence.wide 0 P ops Q rest (a.put o.dst v) cs' w
     | none=>wpOpsSIn Fence.wide 0 P ops Q rest (a.put o.dst .nilIface) ({c₀ with mode:=u}::cs) w)
    rw [hrec]
    have:=step .nilIface none u trivial hmd hrel hv
    simp only [I4] at this
    exact this
  | false=>
   rw [hr] at hv
   obtain⟨op,dst,guard⟩:=x
   cases op with
   | p po=>
    have hv:ob (Ji guard (trP po) ls env) (fun v=>zO l cf (v::ls) (trD dst v env) m md)=some outs:=hv
    obtain⟨v,hv1,hv⟩:=J7 hv
    rw [Nq] at hv1
    have hop:=UZ h2
    cases hb:Aq guard ls env with
    | true=>
     rw [hb] at hv1
     have hv1:trP po ls env=some v:=hv1
     obtain⟨g1,g2⟩:=kH s hop hv1
     exact mY h1 s h4 (v:=v) (u:=v) (by rw [hb];rfl) (fun _=>g2 o rfl w) (step v md u g1 hmd hrel hv)
    | false=>
     rw [hb] at hv1
     obtain rfl:o8.undef=v:=Option.some.inj hv1
     exact mY h1 s h4 (v:=.undef) (u:=.undef) (by rw [hb];rfl) (fun h=>by rw [hb] at h;cases h) (step .undef md u trivial hmd hrel hv)
   | r ro=>
    have hv:ob (Eu guard (trR ro) ls env m) (fun v=>zO l cf (v::ls) (trD dst v env) m md)=some outs:=hv
    obtain⟨v,hv1,hv⟩:=J7 hv
    rw [Nr] at hv1
    have hop:=Va h2
    cases hb:Aq guard ls env with
    | true=>
     rw [hb] at hv1
     have hv1:trR ro ls env m=some v:=hv1
     obtain⟨g1,g2⟩:=kI s hm (pU hop) hv1
     exact mY h1 s h4 (v:=v) (u:=v) (by rw [hb];rfl) (fun _=>g2 o rfl) (step v md u g1 hmd hrel hv)
    | false=>
     rw [hb] at hv1
     obtain rfl:o8.undef=v:=Option.some.inj hv1
     exact mY h1 s h4 (v:=.undef) (u:=.undef) (by rw [hb];rfl) (fun h=>by rw [hb] at h;cases h) (step .undef md u trivial hmd hrel hv)
   | a _=>cases hv
   | e _=>cases hv
def KZ (P:Program)(G:Mem)(slots:List Nat)(nt:Nat)(cf:L8)(fuel:Nat)(c:Code)(ac:aV):Prop:=
 ∀(Q:Exit→Act→List Frame→World→Prop) (env:T o8) (m:Mem) (md:Option o8) (ι:Inj) (w:World) (a:Act) (c₀:Frame) (cs:List Frame) (u:FrameMode) (outs:List aeO),
  RM P G ι m w.heap→aL ι (m.nm ι) slots env a.tmps→nt≤a.tmps.size→a.defers=[]→Dg ι m md→nT ι md u→dEv ac cf fuel env m md=some outs→
  (∀r∈outs,∀ι' w' a' u',Step P G ι m w ι' r.o.m w'→aL ι' (r.o.m.nm ι') slots r.o.env a'.tmps→a'.tmps.size=a.tmps.size→dz ι' r.o.m r.o.marks a'.defers→Uc ι' r.o→Dg ι' r.o.m r.md→nT ι' r.md u'→Q (JD ι' r.o) a' ({c₀ with mode:=u'}::cs) w')→
  c.wpSIn Fence.wide 0 P Q a ({c₀ with mode:=u}::cs) w
theorem au {nt:Nat}{cf:L8}(hcf:tK P G cf)(fuel:Nat)(hdraw:fV P G slots nt cf none){c:Code}{ac:aV}(hc:X6 P slots c=some ac)(ht:tmpsIn nt c=true)
  (hev:∀env m md,dEv ac cf fuel env m md=bnd (trC ac cf fuel none env m []) fun o=>some [⟨o,md⟩]):KZ P G slots nt cf fuel c ac:=by
 intro Q env m md ι w a c₀ cs u outs hm hen hnt hdef hmd hrel hv hQ
 rw [hev] at hv
 obtain⟨os,hos,hk⟩:=Z4 hv
 refine wpSIn_of_wpIn rfl (kN hcf fuel hdraw c ac hc ht _ none env m [] ι w a os hm hen hnt ⟨by rw [hdef];rfl,fun _ h=>by cases h⟩ ⟨rfl,fun _ h=>by cases h⟩ hos ?_)
 intro o ho ι' w' a' hst hen' hsz hmk hpv
 obtain⟨rs,hrs,hsub⟩:=hk o ho
 cases hrs
 exact hQ _ (hsub _ (List.mem_singleton.2 rfl)) ι' w' a' u hst hen' hsz hmk hpv (hmd.step hst).1 (hrel.step hmd hst)
theorem FK {nt:Nat}{cf:L8}(hcf:tK P G cf)(fuel:Nat)(hdraw:fV P G slots nt cf none):∀(c:Code) (ac:aV),X6 P slots c=some ac→tmpsIn nt c=true→KZ P G slots nt cf fuel c ac:=by
 intro c
 induction c with
 | region id ops d=>
  intro ac hc ht
  cases d with
  | true=>
   refine au hcf fuel hdraw hc ht ?_
   have hform:∃n l,ac=.dreg n l:=by
    simp only [X6] at hc
    unfold CK at hc
    split at hc
    ·cases hc
    ·split at hc
     ·cases hc;exact⟨_,_,rfl⟩
     ·cases hc
   obtain⟨n,l,rfl⟩:=hform
   exact fun env m md=>rfl
  | false=>
   have hc0:=hc
   simp only [X6] at hc
   split at hc
   ·rename_i insts hi
    cases hc
    cases hr:EA insts with
    | false=>
     refine au hcf fuel hdraw hc0 ht ?_
     intro env m md
     rw [dEv,hr]
    | true=>
     intro Q env m md ι w a c₀ cs u outs hm hen hnt hdef hmd hrel hv hQ
     rw [dEv,hr] at hv
     have hv:bnd (zO insts cf [] env m md) (fun r=>some [⟨⟨.normal,r.1.env,r.1.m,[],none⟩,r.2⟩])=some outs:=hv
     obtain⟨os,hos,hk⟩:=Z4 hv
     refine wpSIn_region (Dl (iU ht) hm _ [] insts hi [] env md u a os hnt (St.start hm hen) hmd hrel hos ?_)
     intro r hr' u' a' e1 e2 e3 e4 e5 e6
     obtain⟨rs,hrs,hsub⟩:=hk r hr'
     cases hrs
     obtain⟨⟨env₁,m₁,px₁,mk₁⟩,md₁⟩:=r
     obtain rfl:m₁=m:=e1
     exact hQ _ (hsub _ (List.mem_singleton.2 rfl)) ι w a' u' (Step.refl hm) e2 e4 ⟨by rw [e3,hdef];rfl,fun _ h=>by cases h⟩ (Z9 rfl) e5 e6
   ·cases hc
 | seq x y ihx ihy=>
  intro ac hc ht Q env m md ι w a c₀ cs u outs hm hen hnt hdef hmd hrel hv hQ
  simp only [tmpsIn,Bool.and_eq_true] at ht
  simp only [X6] at hc
  split at hc
  ·rename_i cx cy hx hy
   cases hc
   rw [dEv] at hv
   obtain⟨os,hos,hk⟩:=Z4 hv
   refine wpSIn_seq (ihx cx hx ht.1 _ env m md ι w a c₀ cs u os hm hen hnt hdef hmd hrel hos ?_)
   rintro⟨⟨x₀,env₀,m₀,k₀,pv₀⟩,md₀⟩ ho ι' w' a' u' hst hen' hsz hmk' hpv hmd' hrel'
   obtain⟨os',hos',hsub⟩:=hk _ ho
   cases x₀ with
   | normal=>
    obtain rfl:pv₀=none:=gZ hpv (by intro e;cases e)
    cases k₀ with
    | cons=>cases hos'
    | nil=>
     have hos':dEv cy cf fuel env₀ m₀ md₀=some os':=hos'
     refine ihy cy hy ht.2 Q env₀ m₀ md₀ ι' w' a' c₀ cs u' os' hst.rm hen' (by rw [hsz];exact hnt) hmk'.1 hmd' hrel' hos' ?_
     intro r hr ι'' w'' a'' u'' hst' hen'' hsz' hmk'' hpv' hmd'' hrel''
     exact hQ r (hsub _ hr) ι'' w'' a'' u'' (hst.trans hst') hen'' (hsz'.trans hsz) hmk'' hpv' hmd'' hrel''
   | exit id=>
    obtain rfl:pv₀=none:=gZ hpv (by intro e;cases e)
    cases hos'
    exact hQ _ (hsub _ (List.mem_singleton.2 rfl)) ι' w' a' u' hst hen' hsz hmk' hpv hmd' hrel'
   | ret=>
    cases hos'
    have:=hQ _ (hsub _ (List.mem_singleton.2 rfl)) ι' w' a' u' hst hen' hsz hmk' hpv hmd' hrel'
    cases pv₀<;>exact this
  ·cases hc
 | cond c x y ihx ihy=>
  intro ac hc ht Q env m md ι w a c₀ cs u outs hm hen hnt hdef hmd hrel hv hQ
  simp only [tmpsIn,Bool.and_eq_true] at ht
  simp only [X6] at hc
  split at hc
  ·rename_i z cx cy hz hx hy
   cases hc
   rw [dEv] at hv
   obtain⟨t,h1,hv⟩:=ku hv
   obtain⟨e1,_⟩:=J2 (St.start hm hen) hz
   refine wpSIn_cond (t:=t) (by rw [e1,h1];rfl) ?_
   cases t with
   | true=>exact ihx cx hx ht.1 Q env m md ι w a c₀ cs u outs hm hen hnt hdef hmd hrel hv hQ
   | false=>exact ihy cy hy ht.2 Q env m md ι w a c₀ cs u outs hm hen hnt hdef hmd hrel hv hQ
  ·cases hc
 | skip=>intro ac hc ht;simp only [X6,Option.some.injEq] at hc;subst hc;exact au hcf fuel hdraw rfl ht fun _ _ _=>rfl
 | exit id=>intro ac hc ht;simp only [X6,Option.some.injEq] at hc;subst hc;exact au hcf fuel hdraw rfl ht fun _ _ _=>rfl
 | ret=>intro ac hc ht;simp only [X6,Option.some.injEq] at hc;subst hc;exact au hcf fuel hdraw rfl ht fun _ _ _=>rfl
 | block id x _=>
  intro ac hc ht
  have hform:∃y,ac=.block id y:=by
   simp only [X6] at hc
   split at hc
   ·cases hc;exact⟨_,rfl⟩
   ·cases hc
  obtain⟨y,rfl⟩:=hform
  exact au hcf fuel hdraw hc ht fun _ _ _=>rfl
 | loop x _=>
  intro ac hc ht
  have hform:∃y,ac=.loop y:=by
   simp only [X6] at hc
   split at hc
   ·cases hc;exact⟨_,rfl⟩
   ·cases hc
  obtain⟨y,rfl⟩:=hform
  exact au hcf fuel hdraw hc ht fun _ _ _=>rfl
 | rangeFunc g ps x y _ _=>
  intro ac hc ht
  have hform:∃a b c d,ac=.rangeFunc a b c d:=by
   simp only [X6] at hc
   split at hc
   ·cases hc;exact⟨_,_,_,_,rfl⟩
   ·cases hc
  obtain⟨_,_,_,_,rfl⟩:=hform
  exact au hcf fuel hdraw hc ht fun _ _ _=>rfl
 | scope x ihx=>intro ac hc;simp only [X6] at hc;cases hc
 | label l=>intro ac hc;simp only [X6] at hc;cases hc
 | goto l=>intro ac hc;simp only [X6] at hc;cases hc
 | refuse s=>intro ac hc;simp only [X6] at hc;cases hc
theorem xP {K:Known}(hfns:∀f sf,K.fns f=some sf→J6 P f sf){cf:L8}(hcf:tK P G cf)(fuel:Nat)(hdraw:∀slots nt r,fV P G slots nt cf r):adW P G (EB K cf fuel):=by
 intro f args md m outs h
 obtain⟨sf,h1,h⟩:=J7 h
 obtain⟨hok,slots,fn,c,ac,rs,g1,g2,g3,g4,g5,g6,g7,e1,e2,e3,e4,e5⟩:=hfns f sf h1
 refine⟨hok,fun {ι w} hm hargs hmd=>?_⟩
 obtain⟨c',h2,h⟩:=J7 h
 obtain rfl:=e5 c' h2
 obtain⟨env,h3,h⟩:=J7 h
 obtain⟨os,hos,hk⟩:=Z4 h
 rw [e1,e2] at h3
 obtain⟨q1,q2,q3⟩:=xK g6 g7 hargs h3
 refine callsDIn_of_wpSIn g1 g2 trivial fun c₀ cs hu=>?_
 have hc₀:({c₀ with mode:=Aw ι md}:Frame)=c₀:=by rw [← hu]
 rw [← hc₀]
 refine FK hcf fuel (hdraw slots fn.ntmps none) c c' g3 g5 _ env m md ι w _ c₀ cs (Aw ι md) os hm q2 q3 rfl hmd nT.of hos ?_
 rintro⟨⟨x₀,env₀,m₀,k₀,pv₀⟩,md₀⟩ ho ι' w' a' u' hst hen' hsz hmk' hpv hmd' hrel'
 obtain⟨vs,hvs,hsub⟩:=hk _ ho
 have hform:k₀=[]∧pv₀=none∧(∀id,x₀≠.exit id)∧∃l,results sf.results env₀ m₀=some l∧vs=[(m₀,md₀)]:=by
  have hvs:KN sf.results ⟨⟨x₀,env₀,m₀,k₀,pv₀⟩,md₀⟩=some vs:=hvs
  have key:ob (results sf.results env₀ m₀) (fun _=>some [(m₀,md₀)])=some vs→∃l,results sf.results env₀ m₀=some l∧vs=[(m₀,md₀)]:=by
   intro h
   obtain⟨l,hl,h⟩:=J7 h
   cases h
   exact⟨l,hl,rfl⟩
  cases x₀ with
  | exit id=>cases k₀<;>cases pv₀<;>cases hvs
  | normal=>
   cases k₀ with
   | cons=>cases pv₀<;>cases hvs
   | nil=>
    cases pv₀ with
    | some=>cases hvs
    | none=>exact⟨rfl,rfl,(fun id h=>by cases h),key hvs⟩
  | ret=>
   cases k₀ with
   | cons=>cases pv₀<;>cases hvs
   | nil=>
    cases pv₀ with
    | some=>cases hvs
    | none=>exact⟨rfl,rfl,(fun id h=>by cases h),key hvs⟩
 obtain⟨rfl,rfl,hne,l,hres,rfl⟩:=hform
 rw [e3] at hres
 obtain⟨r1,r2⟩:=mW hst.rm hen' _ rs g4 l hres
 have hd:a'.defers=[]:=hmk'.1
 have hrun:(Go.results fn a'.tmps).run P w'=.ok (I4 ι' (result l)) w':=by
  rw [xJ,tQ,Array.mapM_eq_mapM_toList]
  simp only [Sem.run_bind,map_eq_pure_bind,bind_assoc,pure_bind]
  rw [r2]
  simp
 have fin:a'.defers=[]∧∃u'',(({c₀ with mode:=u'}:Frame)::cs)=({({c₀ with mode:=Aw ι md}:Frame) with mode:=u''}:Frame)::cs∧∃v,(Go.results fn a'.tmps).run P w'=.ok v w'∧
   ∃v',Ending.returned v=.returned v'∧∃r∈outs,∃ι',Step P G ι m w ι' r.1 w'∧Dg ι' r.1 r.2∧settle u''=Aw ι' r.2:=
  ⟨hd,u',rfl,_,hrun,_,rfl,(m₀,md₀),hsub _ (List.mem_singleton.2 rfl),ι',hst,hmd',hrel'.settle⟩
 cases x₀ with
 | normal=>exact fin
 | ret=>exact fin
 | exit id=>exact absurd rfl (hne id)
end
end Go.AM
namespace Go.AM
open Go
section
variable {P:Program}{ι ι':Inj}{n n':Nm}{r:Nat→Option Nat}
def xQ (ι:Inj)(n:Nm)(ι':Inj)(n':Nm)(r:Nat→Option Nat):Prop:=∀i j,r i=some j→n i→n' j∧ι' j=ι i∧n'.cap j=n.cap i
mutual
theorem iJ (hr:xQ ι n ι' n' r):∀(v v':o8),jl r v=some v'→v.lt n→I4 ι' v'=I4 ι v∧v'.lt n'
 | .undef,v',h,_ | .bool _,v',h,_ | .int _ _,v',h,_ | .str _,v',h,_ | .nilPtr,v',h,_ | .nilSlice,v',h,_ | .nilMap,v',h,_ | .nilFunc,v',h,_ | .nilIface,v',h,_=>by
  simp only [jl,Option.some.injEq] at h;subst h;simp [I4,o8.lt]
 | .ptr i o,v',h,hv=>by
  simp only [jl] at h
  obtain⟨j,h1,h2⟩:=J7 h
  cases h2
  obtain⟨g1,g2,g3⟩:=hr i j h1 hv
  exact⟨by simp [I4,Inj.at,g2],g1⟩
 | .slice i o l c,v',h,hv=>by
  simp only [jl] at h
  obtain⟨j,h1,h2⟩:=J7 h
  cases h2
  obtain⟨g1,g2,g3⟩:=hr i j h1 hv
  exact⟨by simp [I4,Inj.at,g2],g1⟩
 | .sliceU i o l c,v',h,hv=>by
  simp only [jl] at h
  obtain⟨j,h1,h2⟩:=J7 h
  cases h2
  obtain⟨g1,g2,g3⟩:=hr i j h1 hv.1
  exact⟨by simp [I4,Inj.at,g2],g1,hv.2.1,by rw [g3];exact hv.2.2⟩
 | .map i,v',h,hv=>by
  simp only [jl] at h
  obtain⟨j,h1,h2⟩:=J7 h
  cases h2
  obtain⟨g1,g2,g3⟩:=hr i j h1 hv
  exact⟨by simp [I4,g2],g1⟩
 | .func fn a b,v',h,hv=>by
  obtain⟨h1,h2,h3⟩:=hv
  have key:∀v',(ob (rO r a) fun x=>ob (rO r b) fun y=>some (o8.func fn x y))=some v'→(∀l,fn≠.yield l)→I4 ι' v'=I4 ι (.func fn a b)∧v'.lt n':=by
   intro v' h hn
   obtain⟨x,h4,h⟩:=J7 h
   obtain⟨y,h5,h⟩:=J7 h
   cases h
   obtain⟨g1,g2⟩:=dS hr a x h4 h2
   obtain⟨g3,g4⟩:=dS hr b y h5 h3
   have e:fO ι' fn=fO ι fn:=by cases fn<;>first | rfl | exact absurd rfl (hn _)
   refine⟨by simp [I4,g1,g3,e],?_,g2,g4⟩
   cases fn<;>first | trivial | exact absurd rfl (hn _)
  cases fn with
  | yield l=>simp only [jl] at h;cases h
  | func f=>exact key v' (by simpa only [jl] using h) (by simp)
  | method f=>exact key v' (by simpa only [jl] using h) (by simp)
  | methodOf f g=>exact key v' (by simpa only [jl] using h) (by simp)
  | via f g x y=>exact key v' (by simpa only [jl] using h) (by simp)
 | .iface t v,v',h,hv=>by
  simp only [jl] at h
  obtain⟨x,h1,h2⟩:=J7 h
  cases h2
  obtain⟨g1,g2⟩:=iJ hr v x h1 hv
  exact⟨by simp [I4,g1],g2⟩
 | .agg l,v',h,hv=>by
  simp only [jl] at h
  obtain⟨x,h1,h2⟩:=J7 h
  cases h2
  obtain⟨g1,g2⟩:=dS hr l x h1 hv
  exact⟨by simp [I4,g1],g2⟩
 | .tuple l,v',h,hv=>by
  simp only [jl] at h
  obtain⟨x,h1,h2⟩:=J7 h
  cases h2
  obtain⟨g1,g2⟩:=dS hr l x h1 hv
  exact⟨by simp [I4,g1],g2⟩
 | .pan v,v',h,hv=>by simp only [o8.lt] at hv
theorem dS (hr:xQ ι n ι' n' r):∀(l l':List o8),rO r l=some l'→ltL n l→I7 ι' l'=I7 ι l∧ltL n' l'
 | [],l',h,_=>by simp only [rO,Option.some.injEq] at h;subst h;simp [I7,ltL]
 | v::l,l',h,hv=>by
  simp only [rO] at h
  obtain⟨x,h1,h⟩:=J7 h
  obtain⟨y,h2,h⟩:=J7 h
  cases h
  obtain⟨g1,g2⟩:=iJ hr v x h1 hv.1
  obtain⟨g3,g4⟩:=dS hr l y h2 hv.2
  exact⟨by simp [I7,g1,g3],g2,g4⟩
end
theorem qV (hr:xQ ι n ι' n' r):∀(l l':List (List o8)),pF r l=some l'→(∀x∈l,ltL n x)→l'.length=l.length∧∀(i:Nat) x,l[i]?=some x→∃x',l'[i]?=some x'∧I7 ι' x'=I7 ι x∧ltL n' x'
 | [],l',h,_=>by simp only [pF,Option.some.injEq] at h;subst h;simp
 | v::l,l',h,hv=>by
  simp only [pF] at h
  obtain⟨x,h1,h⟩:=J7 h
  obtain⟨y,h2,h⟩:=J7 h
  cases h
  obtain⟨g1,g2⟩:=dS hr v x h1 (hv v (by simp))
  obtain⟨g3,g4⟩:=qV hr l y h2 (fun x hx=>hv x (by simp [hx]))
  refine⟨by simp [g3],fun i u hu=>?_⟩
  cases i with
  | zero=>simp at hu;subst hu;exact⟨x,rfl,g1,g2⟩
  | succ i=>obtain⟨x',h3,h4⟩:=g4 i u (by simpa using hu);exact⟨x',by simpa using h3,h4⟩
theorem tT (hr:xQ ι n ι' n' r):∀(l l':List (o8×o8)),Ea r l=some l'→(∀e∈l,e.1.lt n∧e.2.lt n)→l'.length=l.length∧(∀k,L6 ι' l' k=L6 ι l k)∧∀e∈l',e.1.lt n'∧e.2.lt n'
 | [],l',h,_=>by simp only [Ea,Option.some.injEq] at h;subst h;simp [L6]
 | e::l,l',h,hv=>by
  simp only [Ea] at h
  obtain⟨x,h1,h⟩:=J7 h
  obtain⟨y,h2,h⟩:=J7 h
  obtain⟨z,h3,h⟩:=J7 h
  cases h
  obtain⟨g1,g2⟩:=iJ hr e.1 x h1 (hv e (by simp)).1
  obtain⟨g3,g4⟩:=iJ hr e.2 y h2 (hv e (by simp)).2
  obtain⟨g5,g6,g7⟩:=tT hr l z h3 (fun x hx=>hv x (by simp [hx]))
  refine⟨by simp [g5],fun k=>by simp [L6,g1,g3,g6],fun u hu=>?_⟩
  rcases List.mem_cons.1 hu with rfl | hu
  ·exact⟨g2,g4⟩
  ·exact g7 u hu
theorem FL {b:Blk}{nb:NB}(h:DZ b=some nb):gI b=false:=by
 cases b<;>first | rfl | (simp [DZ] at h)
theorem tV (nb:NB):gI (iB nb)=false:=by cases nb<;>rfl
theorem tX {r:Nat→Option Nat}{b:Blk}{nb nb':NB}(h:DZ b=some nb)(h':rP r nb=some nb'):Y4 (iB nb')=Y4 b:=by
 cases b<;>simp only [DZ,Option.some.injEq,reduceCtorEq] at h
 ·subst h;simp only [rP,Option.some.injEq] at h';subst h';rfl
 ·obtain⟨l,_,h⟩:=J7 h;cases h
  simp only [rP] at h'
  obtain⟨x,_,h'⟩:=J7 h';cases h';rfl
 ·subst h;simp only [rP] at h'
  obtain⟨x,_,h'⟩:=J7 h';cases h';rfl
 ·subst h;simp only [rP] at h'
  obtain⟨x,_,h'⟩:=J7 h';cases h';rfl
theorem AP (hr:xQ ι n ι' n' r){h:Array Obj}{l:Loc}{b:Blk}{nb nb':NB}(hb:dM P ι n h l b)(hn:DZ b=some nb)(hnb:rP r nb=some nb'):dM P ι' n' h l (iB nb'):=by
 cases b<;>simp only [DZ,Option.some.injEq,reduceCtorEq] at hn
 ·subst hn;simp only [rP,Option.some.injEq] at hnb;subst hnb;exact trivial
 ·rename_i rs k rows
  obtain⟨rl,h1,hn⟩:=J7 hn
  cases hn
  simp only [rP] at hnb
  obtain⟨rl',h2,hnb⟩:=J7 hnb
  cases hnb
  obtain⟨c,e,fz,b1,b2,⟨b3,N,b4,b5⟩,b6⟩:=hb
  obtain⟨s1,s2⟩:=T.CP _ _ _ _ h1
  have hrow:∀i x,rl[i]?=some x→i<k∧rows.get i=some x:=fun i x hx=>by
   have hi:i<k:=by have:=(List.getElem?_eq_some_iff.1 hx).1;omega
   have:=s2 i hi
   rw [Nat.zero_add,hx] at this
   exact⟨hi,this⟩
  have hlt:∀x∈rl,ltL n x:=fun x hx=>by
   obtain⟨i,hi⟩:=List.getElem?_of_mem hx
   obtain⟨g1,g2⟩:=hrow i x hi
   obtain⟨row,q1,q2,q3,q4⟩:=b6 i g1
   rw [g2] at q1;cases q1;exact q3
  obtain⟨g1,g2⟩:=qV hr rl rl' h2 hlt
  refine⟨c,e,fz,b1,b2,⟨by rw [P8,g1,s1];exact b3,rl'.length,(by rw [P8];exact Nat.le_refl _),T.eB rl'⟩,fun i hi=>?_⟩
  rw [P8,g1,s1] at hi
  have hx:rl[i]?=some (rl[i]'(by omega)):=List.getElem?_eq_getElem (by omega)
  obtain⟨x',q1,q2,q3⟩:=g2 i _ hx
  obtain⟨_,g4⟩:=hrow i _ hx
  obtain⟨row,p1,p2,p3,p4⟩:=b6 i hi
  rw [g4] at p1;cases p1
  have hlen:x'.length=rs:=by
   have:=congrArg List.length q2
   simp only [U3] at this
   omega
  refine⟨x',by rw [T.bT];exact q1,hlen,q3,fun j hj=>?_⟩
  rw [p4 j hj,← Y1,← Y1,q2]
 ·subst hn
  simp only [rP] at hnb
  obtain⟨es',h2,hnb⟩:=J7 hnb
  cases hnb
  obtain⟨b1,b2⟩:=hb
  obtain⟨g1,g2,g3⟩:=tT hr _ _ h2 b2
  exact⟨by rw [g2,g1];exact b1,g3⟩
 ·subst hn
  simp only [rP] at hnb
  obtain⟨q,h2,hnb⟩:=J7 hnb
  cases hnb
  obtain⟨b1,b2⟩:=hb
  obtain⟨g1,g2,_⟩:=hr _ _ h2 b1
  exact⟨g1,by rw [g2];exact b2⟩
mutual
theorem jU {r1 r2:Nat→Option Nat}:∀(v u t:o8),jl r1 v=some u→jl r2 u=some t→jl (fun i=>ob (r1 i) r2) v=some t
 | .undef,u,t,h,h' | .bool _,u,t,h,h' | .int _ _,u,t,h,h' | .str _,u,t,h,h' | .nilPtr,u,t,h,h' | .nilSlice,u,t,h,h' | .nilMap,u,t,h,h' | .nilFunc,u,t,h,h' | .nilIface,u,t,h,h'=>by
  simp only [jl,Option.some.injEq] at h;subst h;simpa only [jl] using h'
 | .ptr i o,u,t,h,h' | .slice i o _ _,u,t,h,h' | .sliceU i o _ _,u,t,h,h' | .map i,u,t,h,h'=>by
  simp only [jl] at h
  obtain⟨j,h1,h2⟩:=J7 h
  cases h2
  simp only [jl] at h' ⊢
  obtain⟨k,h3,h4⟩:=J7 h'
  rw [h1,O3,h3];exact h4
 | .func fn a b,u,t,h,h'=>by
  cases fn with
  | yield l=>simp only [jl] at h;cases h
  | _=>
   simp only [jl] at h
   obtain⟨x,h1,h⟩:=J7 h
   obtain⟨y,h2,h⟩:=J7 h
   cases h
   simp only [jl] at h' ⊢
   obtain⟨x',h3,h'⟩:=J7 h'
   obtain⟨y',h4,h'⟩:=J7 h'
   rw [jV a x x' h1 h3,O3,jV b y y' h2 h4];exact h'
 | .iface ty v,u,t,h,h'=>by
  simp only [jl] at h
  obtain⟨x,h1,h⟩:=J7 h
  cases h
  simp only [jl] at h' ⊢
  obtain⟨x',h3,h'⟩:=J7 h'
  rw [jU v x x' h1 h3];exact h'
 | .pan v,u,t,h,h'=>by simp only [jl] at h;cases h
 | .agg l,u,t,h,h' | .tuple l,u,t,h,h'=>by
  simp only [jl] at h
  obtain⟨x,h1,h⟩:=J7 h
  cases h
  simp only [jl] at h' ⊢
  obtain⟨x',h3,h'⟩:=J7 h'
  rw [jV l x x' h1 h3];exact h'
theorem jV {r1 r2:Nat→Option Nat}:∀(v u t:List o8),rO r1 v=some u→rO r2 u=some t→rO (fun i=>ob (r1 i) r2) v=some t
 | [],u,t,h,h'=>by simp only [rO,Option.some.injEq] at h;subst h;simpa only [rO] using h'
 | v::l,u,t,h,h'=>by
  simp only [rO] at h
  obtain⟨x,h1,h⟩:=J7 h
  obtain⟨y,h2,h⟩:=J7 h
  cases h
  simp only [rO] at h' ⊢
  obtain⟨x',h3,h'⟩:=J7 h'
  obtain⟨y',h4,h'⟩:=J7 h'
  rw [jU v x x' h1 h3,O3,jV l y y' h2 h4];exact h'
end
theorem tY {r1 r2:Nat→Option Nat}:∀(v u t:List (List o8)),pF r1 v=some u→pF r2 u=some t→pF (fun i=>ob (r1 i) r2) v=some t
 | [],u,t,h,h'=>by simp only [pF,Option.some.injEq] at h;subst h;simpa only [pF] using h'
 | v::l,u,t,h,h'=>by
  simp only [pF] at h
  obtain⟨x,h1,h⟩:=J7 h
  obtain⟨y,h2,h⟩:=J7 h
  cases h
  simp only [pF] at h' ⊢
  obtain⟨x',h3,h'⟩:=J7 h'
  obtain⟨y',h4,h'⟩:=J7 h'
  rw [jV v x x' h1 h3,O3,tY l y y' h2 h4];exact h'
theorem xR {r1 r2:Nat→Option Nat}:∀(v u t:List (o8×o8)),Ea r1 v=some u→Ea r2 u=some t→Ea (fun i=>ob (r1 i) r2) v=some t
 | [],u,t,h,h'=>by simp only [Ea,Option.some.injEq] at h;subst h;simpa only [Ea] using h'
 | e::l,u,t,h,h'=>by
  simp only [Ea] at h
  obtain⟨x,h1,h⟩:=J7 h
  obtain⟨y,h2,h⟩:=J7 h
  obtain⟨z,h3,h⟩:=J7 h
  cases h
  simp only [Ea] at h' ⊢
  obtain⟨x',h4,h'⟩:=J7 h'
  obtain⟨y',h5,h'⟩:=J7 h'
  obtain⟨z',h6,h'⟩:=J7 h'
  rw [jU e.1 x x' h1 h4,O3,jU e.2 y y' h2 h5,O3,xR l z z' h3 h6];exact h'
theorem FM {r1 r2:Nat→Option Nat}{v u t:NB}(h:rP r1 v=some u)(h':rP r2 u=some t):rP (fun i=>ob (r1 i) r2) v=some t:=by
 cases v<;>simp only [rP] at h
 ·obtain⟨x,h1,h⟩:=J7 h
  cases h
  simp only [rP] at h' ⊢
  obtain⟨x',h3,h'⟩:=J7 h'
  rw [tY _ x x' h1 h3];exact h'
 ·obtain⟨x,h1,h⟩:=J7 h
  cases h
  simp only [rP] at h' ⊢
  obtain⟨x',h3,h'⟩:=J7 h'
  rw [xR _ x x' h1 h3];exact h'
 ·obtain⟨x,h1,h⟩:=J7 h
  cases h
  simp only [rP] at h' ⊢
  obtain⟨x',h3,h'⟩:=J7 h'
  rw [h1,O3,h3];exact h'
 ·cases h;exact h'
theorem mZ {r:Nat→Option Nat}:∀(l l':List NB),wJ r l=some l'→l'.length=l.length∧∀(i:Nat) x,l'[i]?=some x→∃y,l[i]?=some y∧rP r y=some x
 | [],l',h=>by simp only [wJ,Option.some.injEq] at h;subst h;simp
 | v::l,l',h=>by
  simp only [wJ] at h
  obtain⟨x,h1,h⟩:=J7 h
  obtain⟨y,h2,h⟩:=J7 h
  cases h
  obtain⟨g1,g2⟩:=mZ l y h2
  refine⟨by simp [g1],fun i u hu=>?_⟩
  cases i with
  | zero=>simp at hu;subst hu;exact⟨v,rfl,h1⟩
  | succ i=>obtain⟨z,h3,h4⟩:=g2 i u (by simpa using hu);exact⟨z,by simpa using h3,h4⟩
mutual
theorem vH (lo:Nat):∀(v:o8),∀i∈IK lo v,lo≤i
 | .ptr i _,j,h | .slice i _ _ _,j,h | .sliceU i _ _ _,j,h | .map i,j,h=>by
  simp only [IK] at h
  cases hb:Nat.ble lo i with
  | true=>rw [hb] at h;obtain rfl:=List.mem_singleton.1 h;exact Nat.le_of_ble_eq_true hb
  | false=>rw [hb] at h;cases h
 | .func fn a b,j,h=>by
  simp only [IK] at h
  rcases List.mem_append.1 h with h | h
  ·exact nU lo a j h
  ·exact nU lo b j h
 | .iface _ v,j,h=>by simp only [IK] at h;exact vH lo v j h
 | .agg l,j,h | .tuple l,j,h=>by simp only [IK] at h;exact nU lo l j h
 | .undef,j,h | .bool _,j,h | .int _ _,j,h | .str _,j,h | .nilPtr,j,h | .nilSlice,j,h | .nilMap,j,h | .nilFunc,j,h | .nilIface,j,h | .pan _,j,h=>by simp only [IK] at h;cases h
theorem nU (lo:Nat):∀(l:List o8),∀i∈IL lo l,lo≤i
 | [],j,h=>by simp only [IL] at h;cases h
 | v::l,j,h=>by
  simp only [IL] at h
  rcases List.mem_append.1 h with h | h
  ·exact vH lo v j h
  ·exact nU lo l j h
end
theorem BU (lo:Nat):∀(l:List (List o8)),∀i∈Ew lo l,lo≤i
 | [],j,h=>by simp only [Ew] at h;cases h
 | v::l,j,h=>by
  simp only [Ew] at h
  rcases List.mem_append.1 h with h | h
  ·exact nU lo v j h
  ·exact BU lo l j h
theorem FN (lo:Nat):∀(l:List (o8×o8)),∀i∈UM lo l,lo≤i
 | [],j,h=>by simp only [UM] at h;cases h
 | e::l,j,h=>by
  simp only [UM] at h
  rcases List.mem_append.1 h with h | h
  ·exact vH lo _ j h
  ·rcases List.mem_append.1 h with h | h
   ·exact vH lo _ j h
   ·exact FN lo l j h
theorem Ns (lo:Nat)(b:NB):∀i∈adP lo b,lo≤i:=by
 intro i h
 cases b with
 | cells rs rows=>exact BU lo rows i h
 | map es=>exact FN lo es i h
 | tail p=>
  simp only [adP] at h
  cases hb:Nat.ble lo p with
  | true=>rw [hb] at h;obtain rfl:=List.mem_singleton.1 h;exact Nat.le_of_ble_eq_true hb
  | false=>rw [hb] at h;cases h
 | dead=>cases h
def Good (m:Mem)(lo:Nat)(l:List (Nat×NB)):Prop:=(∀p∈l,lo≤p.1∧∃b,m.get p.1=some b∧DZ b=some p.2)∧(l.map (·.1)).Nodup
theorem tZ (n:Nat):∀l:List (Nat×NB),Ey n l=true∨n∉l.map (·.1)
 | []=>.inr (by simp)
 | x::l=>by
  show bi (Nat.beq x.1 n) true (Ey n l)=true∨_
  cases hb:Nat.beq x.1 n with
  | true=>exact .inl rfl
  | false=>
   rcases tZ n l with h | h
   ·exact .inl h
   ·refine .inr fun hm=>?_
    rcases List.mem_cons.1 (by simpa using hm:n∈x.1::l.map (·.1)) with h1 | h1
    ·rw [h1,Nat.beq_refl] at hb;cases hb
    ·exact h h1
theorem Dm {m:Mem}{lo:Nat}:∀(k:Nat) (work:List Nat) (seen out:List (Nat×NB)),(∀i∈work,lo≤i)→Good m lo seen→reach m lo k work seen=some out→Good m lo out:=by
 intro k
 induction k with
 | zero=>intro work seen out _ _ h;cases h
 | succ k ih=>
  intro work seen out hw hs h
  cases work with
  | nil=>
   have h:some seen.reverse=some out:=h
   cases h
   exact⟨fun p hp=>hs.1 p (List.mem_reverse.1 hp),by rw [List.map_reverse];exact List.pairwise_reverse.2 (hs.2.imp fun h e=>h e.symm)⟩
  | cons i work=>
   have h:bi (Ey i seen) (reach m lo k work seen) (ob (m.get i) fun b=>ob (DZ b) fun nb=>reach m lo k (adP lo nb++work) ((i,nb)::seen))=some out:=h
   rcases tZ i seen with h1 | h1
   ·rw [h1] at h;exact ih work seen out (fun j hj=>hw j (by simp [hj])) hs h
   ·cases hb:Ey i seen with
    | true=>rw [hb] at h;exact ih work seen out (fun j hj=>hw j (by simp [hj])) hs h
    | false=>
     rw [hb] at h
     obtain⟨b,h2,h⟩:=J7 h
     obtain⟨nb,h3,h⟩:=J7 h
     refine ih _ _ out (fun j hj=>?_) ⟨fun p hp=>?_,?_⟩ h
     ·rcases List.mem_append.1 hj with hj | hj
      ·exact Ns lo nb j hj
      ·exact hw j (by simp [hj])
     ·rcases List.mem_cons.1 hp with rfl | hp
      ·exact⟨hw i (by simp),b,h2,h3⟩
      ·exact hs.1 p hp
     ·rw [List.map_cons];exact List.nodup_cons.2 ⟨h1,hs.2⟩
theorem oV (i:Nat):∀(l:List Nat) (k j:Nat),placeOf i l k=some j→k≤j∧l[j-k]?=some i
 | [],k,j,h=>by cases h
 | x::l,k,j,h=>by
  have h:bi (Nat.beq x i) (some k) (placeOf i l (k+1))=some j:=h
  cases hb:Nat.beq x i with
  | true=>rw [hb] at h;cases h;rw [Nat.eq_of_beq_eq_true hb];simp
  | false=>
   rw [hb] at h
   obtain⟨h1,h2⟩:=oV i l (k+1) j h
   exact⟨by omega,by rw [show j-k=(j-(k+1))+1 from by omega];simpa using h2⟩
theorem xS {lo i j:Nat}{ids:List Nat}(h:Ez lo ids i=some j):(i<lo∧j=i)∨(lo≤i∧lo≤j∧ids[j-lo]?=some i):=by
 unfold Ez at h
 cases hb:Nat.ble lo i with
 | true=>
  rw [hb] at h
  obtain⟨h1,h2⟩:=oV i ids lo j h
  exact .inr ⟨Nat.le_of_ble_eq_true hb,h1,h2⟩
 | false=>
  rw [hb] at h
  have h:some i=some j:=h
  cases h
  exact .inl ⟨Nat.lt_of_not_le (xu hb),rfl⟩
theorem jW {m:Mem}{lo:Nat}{vs:List o8}{c:CO}(h:qh lo vs m=some c):∃seen,Good m lo seen∧c.ids=seen.map (·.1)∧rO (Ez lo c.ids) vs=some c.vs∧wJ (Ez lo c.ids) (seen.map (·.2))=some c.bs:=by
 obtain⟨seen,h1,h⟩:=J7 h
 obtain⟨xs,h2,h⟩:=J7 h
 obtain⟨bs,h3,h⟩:=J7 h
 cases h
 exact⟨seen,Dm _ _ _ _ (nU lo vs) ⟨(fun p (hp:p∈([]:List (Nat×NB)))=>by cases hp),(by simp:(([]:List (Nat×NB)).map (·.1)).Nodup)⟩ h1,rfl,h2,h3⟩
theorem AQ (b:NB)(bs:List NB)(m:Mem):layAll (b::bs) m=layAll bs (m.new (iB b)):=rfl
theorem iW:∀(bs:List NB) (m:Mem),T.Ok m.t m.next→T.Ok (layAll bs m).t (layAll bs m).next∧(layAll bs m).next=m.next+bs.length∧(layAll bs m).lim=m.lim∧
  ∀i,(layAll bs m).get i=if i<m.next then m.get i else (bs[i-m.next]?).map iB
 | [],m,h=>by
  refine⟨h,rfl,rfl,fun i=>?_⟩
  show m.get i=_
  split
  ·rfl
  ·rename_i hi
   cases hg:m.get i with
   | none=>simp
   | some x=>exact absurd (Mem.L9 h hg) hi
 | b::bs,m,h=>by
  obtain⟨h1,h2,h3,h4⟩:=iW bs (m.new (iB b)) (h.push _)
  rw [AQ]
  refine⟨h1,by rw [h2];simp;omega,h3,fun i=>?_⟩
  rw [h4,Mem.BF,Mem.Y5 h]
  by_cases hi:i<m.next
  ·rw [if_pos (by omega),if_neg (by omega),if_pos hi]
  ·by_cases he:i=m.next
   ·subst he;rw [if_pos (by omega),if_pos rfl,if_neg (by omega)];simp
   ·rw [if_neg (by omega),if_neg hi,show i-m.next=(i-(m.next+1))+1 from by omega];simp
end
end Go.AM
namespace Go.AM
open Go
section
variable {P:Program}{G:Mem}{ι:Inj}{m:Mem}{w:World}
structure BX (G:Mem)(gbs:List NB):Prop where
 ok:T.Ok G.t G.next
 len:gbs.length=G.next
 get:∀i,i<G.next→G.get i=(gbs[i]?).map iB
 shut:∀nb∈gbs,rP (fun i=>bi (Nat.blt i G.next) (some i) none) nb=some nb
noncomputable abbrev aG (G:Mem)(bs:List NB):Mem:=(layAll bs G).shut
def sG (P:Program)(G:Mem)(f:FuncId)(args:List o8)(bs:List NB)(a:Ans):Prop:=
 ∀(ι:Inj) (w:World),RM P G ι (aG G bs) w.heap→ltL ((aG G bs).nm ι) args→
  CallsIn Fence.wide 0 P f (I7 ι args).toArray w fun e w'=>∃ι' r,Step P G ι (aG G bs) w ι' r.m w'∧r.v.lt (r.m.nm ι')∧e=.returned (I4 ι' r.v)∧MQ (layAll bs G).next r=some a
theorem qW:∀a b:List (List o8),sQ a b=true→a=b
 | [],[],_=>rfl
 | [],_ :: _,h=>by simp only [sQ] at h;cases h
 | _ :: _,[],h=>by simp only [sQ] at h;cases h
 | x::a,y::b,h=>by
  simp only [sQ] at h
  obtain⟨h1,h2⟩:=dH h
  rw [fZ (dR 100) _ _ h1,qW a b h2]
theorem uf:∀a b:List (o8×o8),CJ a b=true→a=b
 | [],[],_=>rfl
 | [],_ :: _,h=>by simp only [CJ] at h;cases h
 | _ :: _,[],h=>by simp only [CJ] at h;cases h
 | x::a,y::b,h=>by
  simp only [CJ] at h
  obtain⟨h1,h2⟩:=dH h
  obtain⟨h2,h3⟩:=dH h2
  have e1:=dR 100 _ _ h1
  have e2:=dR 100 _ _ h2
  obtain⟨x1,x2⟩:=x
  obtain⟨y1,y2⟩:=y
  have e1:x1=y1:=e1
  have e2:x2=y2:=e2
  rw [e1,e2,uf a b h3]
theorem Dn:∀a b:NB,Z5 a b=true→a=b:=by
 intro a b h
 cases a<;>cases b<;>simp only [Z5] at h<;>first | (cases h;done) | skip
 ·obtain⟨h1,h2⟩:=dH h
  rw [Nat.eq_of_beq_eq_true h1,qW _ _ h2]
 ·rw [uf _ _ h]
 ·rw [Nat.eq_of_beq_eq_true h]
 ·rfl
theorem iX:∀a b:List NB,iC a b=true→a=b
 | [],[],_=>rfl
 | [],_ :: _,h=>by simp only [iC] at h;cases h
 | _ :: _,[],h=>by simp only [iC] at h;cases h
 | x::a,y::b,h=>by
  simp only [iC] at h
  obtain⟨h1,h2⟩:=dH h
  rw [Dn _ _ h1,iX a b h2]
theorem lM {lo:Nat}:∀(l:List VM) (a:Ans),Bz lo l=some a→∀r∈l,MQ lo r=some a
 | [],a,h,r,hr=>by cases hr
 | [x],a,h,r,hr=>by
  obtain rfl:=List.mem_singleton.1 hr
  obtain⟨b,h1,h2⟩:=J7 h
  have h2:some b=some a:=h2
  cases h2;exact h1
 | x::y::l,a,h,r,hr=>by
  obtain⟨b,h1,h2⟩:=J7 h
  have h2:(ob (Bz lo (y::l)) fun c=>bi (cK 100 b.v c.v) (bi (iC b.bs c.bs) (some b) none) none)=some a:=h2
  obtain⟨c,h3,h2⟩:=J7 h2
  obtain⟨h4,h2⟩:=K8 h2
  obtain⟨h5,h2⟩:=K8 h2
  have h2:some b=some a:=h2
  cases h2
  rcases List.mem_cons.1 hr with rfl | hr
  ·exact h1
  ·have:=lM (y::l) c h3 r hr
   rw [this]
   have e1:=dR 100 _ _ h4
   have e2:=iX _ _ h5
   obtain⟨av,ab⟩:=a
   obtain⟨cv,cb⟩:=c
   have e1:av=cv:=e1
   have e2:ab=cb:=e2
   rw [e1,e2]
theorem Dq {cf:L8}(hcf:tK P G cf){dcf:jg}(hdc:adW P G dcf)(hmix:P.follows .mixedOrders=true)(fuel:Nat){f:FuncId}{sf:SFn}(hf:J6 P f sf){args:List o8}{bs:List NB}{a:Ans}
  (h:(ob (F3 cf dcf fuel sf args (aG G bs)) fun l=>Bz (layAll bs G).next l)=some a):sG P G f args bs a:=by
 intro ι w hm hargs
 obtain⟨l,h1,h2⟩:=J7 h
 refine (BO hcf hdc fuel (fun slots nt r=>iI hmix hcf slots nt r) hf h1 hm hargs).mono ?_
 rintro e w' (⟨v,rfl,r,hr,ι',g1,g2,rfl⟩ | ⟨r,hr,x,ι',hx,_⟩)
 ·exact⟨ι',r,g1,g2,rfl,lM l a h2 r hr⟩
 ·exfalso
  have h3:=lM l a h2 r hr
  obtain⟨co,hco,_⟩:=J7 h3
  obtain⟨seen,_,_,h4,_⟩:=jW hco
  rw [hx] at h4
  simp only [rO] at h4
  obtain⟨y,h5,_⟩:=J7 h4
  simp only [jl] at h5
  cases h5
theorem xU {α:Type}(l:List α):(T.ofList l).slice l.length 0=some l:=by
 have key:∀(k i:Nat),i+k=l.length→(T.ofList l).slice k i=some (l.drop i):=by
  intro k
  induction k with
  | zero=>intro i h;rw [T.sU,List.drop_of_length_le (by omega)]
  | succ k ih=>
   intro i h
   have hi:i<l.length:=by omega
   rw [T.sV,T.bT,List.getElem?_eq_getElem hi,O3,ih (i+1) (by omega),O3,List.getElem_cons_drop]
 exact key l.length 0 (by omega)
theorem Dr (nb:NB):DZ (iB nb)=some nb:=by
 cases nb with
 | cells rs rows=>
  show (ob ((T.ofList rows).slice (len' rows) 0) fun l=>some (NB.cells rs l))=_
  rw [P8,xU];rfl
 | map es=>rfl
 | tail p=>rfl
 | dead=>rfl
def bL (g:Nat)(ι:Inj)(ids:List Nat):Inj:=fun i=>if i<g then ι i else ι (ids.getD (i-g) 0)
theorem Nt (hB:∃gbs,BX G gbs)(hm:RM P G ι m w.heap){vs:List o8}{c:CO}(hc:qh G.next vs m=some c)(hvs:ltL (m.nm ι) vs):
  RM P G (bL G.next ι c.ids) (aG G c.bs) w.heap∧ltL ((aG G c.bs).nm (bL G.next ι c.ids)) c.vs∧I7 (bL G.next ι c.ids) c.vs=I7 ι vs∧c.bs.length=c.ids.length∧
   (∀(k i:Nat),c.ids[k]?=some i→G.next≤i∧m.has i)∧(∀i,G.next≤i→i<(aG G c.bs).next→∃j,c.ids[i-G.next]?=some j):=by
 obtain⟨gbs,hB⟩:=hB
 obtain⟨seen,⟨hg1,hg2⟩,hids,h3,h4⟩:=jW hc
 obtain⟨l1,l2,l3,l4⟩:=iW c.bs G hB.ok
 obtain⟨b1,b2⟩:=mZ _ _ h4
 have hlen:c.bs.length=c.ids.length:=by rw [b1,hids];simp
 have hseen:∀(k i:Nat),c.ids[k]?=some i→G.next≤i∧∃b nb nb',m.get i=some b∧DZ b=some nb∧c.bs[k]?=some nb'∧rP (Ez G.next c.ids) nb=some nb':=by
  intro k i hk
  rw [hids,List.getElem?_map] at hk
  cases hp:seen[k]? with
  | none=>rw [hp] at hk;cases hk
  | some p=>
   rw [hp] at hk
   have hk:p.1=i:=Option.some.inj hk
   obtain⟨q1,b,q2,q3⟩:=hg1 p (List.mem_of_getElem? hp)
   rw [hk] at q1 q2
   have hkl:k<c.bs.length:=by rw [hlen,hids,List.length_map];exact (List.getElem?_eq_some_iff.1 hp).1
   obtain⟨y,q4,q5⟩:=b2 k _ (List.getElem?_eq_getElem hkl)
   rw [List.getElem?_map,hp] at q4
   have q4:p.2=y:=Option.some.inj q4
   rw [← q4] at q5
   exact⟨q1,b,p.2,_,q2,q3,List.getElem?_eq_getElem hkl,q5⟩
 have hget:∀i,(aG G c.bs).get i=if i<G.next then G.get i else (c.bs[i-G.next]?).map iB:=l4
 have hnext:(aG G c.bs).next=G.next+c.bs.length:=l2
 have hbase:∀i,i<G.next→m.get i=G.get i:=hm.base
 have hin:∀k i,c.ids[k]?=some i→bL G.next ι c.ids (G.next+k)=ι i:=by
  intro k i hk
  unfold bL
  rw [if_neg (by omega),show G.next+k-G.next=k from by omega,List.getD_eq_getElem?_getD,hk];rfl
 have hlo:∀i,i<G.next→bL G.next ι c.ids i=ι i:=fun i hi=>if_pos hi
 have hr:xQ ι (m.nm ι) (bL G.next ι c.ids) ((aG G c.bs).nm (bL G.next ι c.ids)) (Ez G.next c.ids):=by
  intro i j hij ⟨y,hy,hyv⟩
  rcases xS hij with⟨h1,rfl⟩ | ⟨h1,h2,h3⟩
  ·refine⟨⟨y,?_,hyv⟩,hlo _ h1,congrArg Loc.cap (hlo _ h1)⟩
   rw [hget,if_pos h1,← hbase _ h1];exact hy
  ·have e:=hin (j-G.next) i h3
   rw [show G.next+(j-G.next)=j from by omega] at e
   obtain⟨_,_,_,nb',_,_,q,_⟩:=hseen (j-G.next) i h3
   refine⟨⟨iB nb',?_,tV nb'⟩,e,congrArg Loc.cap e⟩
   rw [hget,if_neg (by omega),q];rfl
 have hr0:xQ ι (m.nm ι) (bL G.next ι c.ids) ((aG G c.bs).nm (bL G.next ι c.ids)) (fun i=>bi (Nat.blt i G.next) (some i) none):=by
  intro i j hij ⟨y,hy,hyv⟩
  have hij:bi (Nat.blt i G.next) (some i) none=some j:=hij
  obtain⟨h1,h2⟩:=K8 hij
  cases h2
  have h1:i<G.next:=Eq.mp Nat.blt_eq h1
  refine⟨⟨y,?_,hyv⟩,hlo _ h1,congrArg Loc.cap (hlo _ h1)⟩
  rw [hget,if_pos h1,← hbase _ h1];exact hy
 obtain⟨v1,v2⟩:=dS hr vs c.vs h3 hvs
 have hspot:∀i x,(aG G c.bs).get i=some x→Y4 x=true→(bL G.next ι c.ids i).spot=none:=by
  intro i b hb hlv
  rw [hget] at hb
  split at hb
  ·rename_i hi
   rw [hlo i hi]
   exact hm.spot i b (by rw [hbase i hi];exact hb) hlv
  ·rename_i hi
   cases hnb:c.bs[i-G.next]? with
   | none=>rw [hnb] at hb;cases hb
   | some nb=>
    rw [hnb] at hb
    have hb:iB nb=b:=Option.some.inj hb
    subst hb
    have hk:i-G.next<c.ids.length:=by have:=(List.getElem?_eq_some_iff.1 hnb).1;omega
    have hkk:=List.getElem?_eq_getElem hk
    obtain⟨_,bb,nb0,nb',q1,q2,q3,q4⟩:=hseen _ _ hkk
    rw [hnb] at q3;cases q3
    have e:=hin (i-G.next) _ hkk
    rw [show G.next+(i-G.next)=i from by omega] at e
    rw [e]
    exact hm.spot _ _ q1 (by rw [← tX q2 q4];exact hlv)
 refine⟨⟨l1,?_,fun i x hi hx=>?_,?_,Nat.le_refl _,hm.gle,fun i hi=>by rw [hget,if_pos hi],fun i hi=>?_,fun i hi=>?_,fun i x hx hl=>?_⟩,v2,v1,hlen,fun k i hk=>?_,fun i h1 h2=>?_⟩
 ·intro i b hb
  rw [hget] at hb
  split at hb
  ·rename_i hi
   rw [hlo i hi]
   have hmb:m.get i=some b:=by rw [hbase i hi];exact hb
   have hb':=hm.blk i b hmb
   rw [hB.get i hi] at hb
   cases hnb:gbs[i]? with
   | none=>rw [hnb] at hb;cases hb
   | some nb=>
    rw [hnb] at hb
    have hb:iB nb=b:=Option.some.inj hb
    subst hb
    exact AP hr0 hb' (Dr nb) (hB.shut nb (List.mem_of_getElem? hnb))
  ·rename_i hi
   cases hnb:c.bs[i-G.next]? with
   | none=>rw [hnb] at hb;cases hb
   | some nb=>
    rw [hnb] at hb
    have hb:iB nb=b:=Option.some.inj hb
    subst hb
    have hk:i-G.next<c.ids.length:=by have:=(List.getElem?_eq_some_iff.1 hnb).1;omega
    have hkk:=List.getElem?_eq_getElem hk
    obtain⟨_,bb,nb0,nb',q1,q2,q3,q4⟩:=hseen _ _ hkk
    rw [hnb] at q3;cases q3
    have e:=hin (i-G.next) _ hkk
    rw [show G.next+(i-G.next)=i from by omega] at e
    rw [e]
    exact AP hr (hm.blk _ _ q1) q2 q4
 ·have:=Mem.L9 (m:=aG G c.bs) l1 hx
  have hi:(aG G c.bs).next≤i:=hi
  omega
 ·show G.next≤(aG G c.bs).next
  rw [hnext];omega
 ·obtain⟨y,h1,h2⟩:=hm.ghas i hi
  have hi':i<G.next:=Nat.lt_of_lt_of_le hi hm.gle
  exact⟨y,by rw [hget,if_pos hi',← hbase i hi'];exact h1,h2⟩
 ·rw [hlo i (Nat.lt_of_lt_of_le hi hm.gle)];exact hm.glob i hi
 ·exact hspot i x hx hl
 ·obtain⟨q1,b,nb,_,q2,q3,_⟩:=hseen k i hk
  exact⟨q1,b,q2,FL q3⟩
 ·rw [hnext] at h2
  exact⟨_,List.getElem?_eq_getElem (by omega)⟩
def aY (next:Nat)(ι ι2:Inj)(ids:List Nat):Inj:=fun i=>if i<next then ι i else ι2 (ids.getD (i-next) 0)
theorem qX {g next i j:Nat}{ids:List Nat}(h:oo g ids next i=some j):
  (i<g∧j=i)∨(g≤i∧i-g<ids.length∧ids[i-g]?=some j)∨(g+ids.length≤i∧j=next+(i-g-ids.length)):=by
 unfold oo at h
 rw [P8] at h
 cases h1:Nat.blt i g with
 | true=>rw [h1] at h;have h:some i=some j:=h;cases h;exact .inl ⟨Eq.mp Nat.blt_eq h1,rfl⟩
 | false=>
  rw [h1] at h
  have h1:=jN h1
  cases h2:Nat.blt (Nat.sub i g) ids.length with
  | true=>
   rw [h2] at h
   have h:vX (i-g) ids=some j:=h
   rw [fM] at h
   exact .inr (.inl ⟨h1,Eq.mp Nat.blt_eq h2,h⟩)
  | false=>
   rw [h2] at h
   have h2:ids.length≤i-g:=jN h2
   have h:some (next+(i-g-ids.length))=some j:=h
   cases h
   exact .inr (.inr ⟨by omega,rfl⟩)
theorem AR (hB:∃gbs,BX G gbs){f:FuncId}{args:List o8}{c:CO}{a:Ans}{v:o8}{bs:List NB}(hm:RM P G ι m w.heap)(hargs:ltL (m.nm ι) args)(hc:qh G.next args m=some c)(ha:sG P G f c.vs c.bs a)
  (hv:jl (oo G.next c.ids m.next) a.v=some v) (hbs:wJ (oo G.next c.ids m.next) a.bs=some bs):
  CallsIn Fence.wide 0 P f (I7 ι args).toArray w (Z0 P G ι m w [⟨v,layAll bs m⟩]):=by
 have hBok:T.Ok G.t G.next:=by obtain⟨gbs,hB⟩:=hB;exact hB.ok
 obtain⟨hm1,hargs1,hconc,hlen,hidh,hidx⟩:=Nt hB hm hc hargs
 have hcall:=ha (bL G.next ι c.ids) w hm1 hargs1
 rw [hconc] at hcall
 refine hcall.mono ?_
 rintro e w' ⟨ι2,r,hst,hrv,rfl,hans⟩
 obtain⟨co,hco,hans⟩:=J7 hans
 obtain⟨seen,⟨hg1,hg2⟩,hids,h3,h4⟩:=jW hco
 have hvs:∃u,co.vs=[u]∧jl (Ez (layAll c.bs G).next co.ids) r.v=some u:=by
  simp only [rO] at h3
  obtain⟨x,h5,h3⟩:=J7 h3
  obtain⟨y,h6,h3⟩:=J7 h3
  cases h6
  have h3:some [x]=some co.vs:=h3
  exact⟨x,(Option.some.inj h3).symm,h5⟩
 obtain⟨u,hu,hru⟩:=hvs
 rw [hu] at hans
 have hans:some (⟨u,co.bs⟩:Ans)=some a:=hans
 cases hans
 obtain⟨b1,b2⟩:=mZ _ _ h4
 obtain⟨b3,b4⟩:=mZ _ _ hbs
 obtain⟨l1,l2,l3,l4⟩:=iW c.bs G hBok
 obtain⟨k1,k2,k3,k4⟩:=iW bs m hm.ok
 have hlo:(aG G c.bs).lim=(layAll c.bs G).next:=rfl
 have hlolen:(layAll c.bs G).next=G.next+c.ids.length:=by rw [l2,hlen]
 have hno:∀b,¬ Jl (bL G.next ι c.ids) (aG G c.bs) b:=by
  rintro b ⟨i,x,hi,hx,_,_⟩
  have:=Mem.L9 (m:=aG G c.bs) hm1.ok hx
  have hi:(aG G c.bs).next≤i:=hi
  omega
 have hheap:∀b,b<w.heap.size→w'.heap[b]?=w.heap[b]?:=fun b hb=>hst.frame b hb (hno b)
 have hnewloc:∀i x,(layAll c.bs G).next≤i→r.m.get i=some x→Y4 x=true→w.heap.size≤(ι2 i).b:=by
  intro i x hi hx hl
  rcases hst.own _ ⟨i,x,by rw [hst.lim];exact hi,hx,hl,rfl⟩ with h | h
  ·exact absurd h (hno _)
  ·exact h
 have hseen:∀(k i:Nat),co.ids[k]?=some i→(layAll c.bs G).next≤i∧∃b nb nb',r.m.get i=some b∧DZ b=some nb∧bs[k]?=some nb'∧
   rP (fun i=>ob (Ez (layAll c.bs G).next co.ids i) (oo G.next c.ids m.next)) nb=some nb':=by
  intro k i hk
  have hk':=hk
  rw [hids,List.getElem?_map] at hk
  cases hp:seen[k]? with
  | none=>rw [hp] at hk;cases hk
  | some p=>
   rw [hp] at hk
   have hk:p.1=i:=Option.some.inj hk
   obtain⟨q1,b,q2,q3⟩:=hg1 p (List.mem_of_getElem? hp)
   rw [hk] at q1 q2
   have hkl:k<co.bs.length:=by rw [b1,List.length_map];exact (List.getElem?_eq_some_iff.1 hp).1
   have hkl2:k<bs.length:=by rw [b3];exact hkl
   obtain⟨y,q4,q5⟩:=b2 k _ (List.getElem?_eq_getElem hkl)
   obtain⟨z,q6,q7⟩:=b4 k _ (List.getElem?_eq_getElem hkl2)
   have q6:co.bs[k]?=some z:=q6
   rw [List.getElem?_eq_getElem hkl] at q6
   cases q6
   rw [List.getElem?_map,hp] at q4
   have q4:p.2=y:=Option.some.inj q4
   rw [← q4] at q5
   exact⟨q1,b,p.2,_,q2,q3,List.getElem?_eq_getElem hkl2,FM q5 q7⟩
 have hbl:bs.length=co.ids.length:=by rw [b3];show co.bs.length=_;rw [b1,hids];simp
 have hget:∀i,(layAll bs m).get i=if i<m.next then m.get i else (bs[i-m.next]?).map iB:=k4
 have hold:∀i,i<m.next→aY m.next ι ι2 co.ids i=ι i:=fun i hi=>if_pos hi
 have hnew:∀k i,co.ids[k]?=some i→aY m.next ι ι2 co.ids (m.next+k)=ι2 i:=by
  intro k i hk
  unfold aY
  rw [if_neg (by omega),show m.next+k-m.next=k from by omega,List.getD_eq_getElem?_getD,hk];rfl
 have hlt:∀i x,m.get i=some x→i<m.next:=fun i x hx=>Mem.L9 hm.ok hx
 have hhas:∀i,m.has i→(layAll bs m).has i:=fun i ⟨x,h1,h2⟩=>⟨x,by rw [hget,if_pos (hlt i x h1)];exact h1,h2⟩
 have hext:∀i,m.has i→aY m.next ι ι2 co.ids i=ι i:=fun i ⟨x,h1,_⟩=>hold i (hlt i x h1)
 have hGm:G.next≤m.next:=Nat.le_trans hm.glim hm.limn
 have hr:xQ ι2 (r.m.nm ι2) (aY m.next ι ι2 co.ids) ((layAll bs m).nm (aY m.next ι ι2 co.ids)) (fun i=>ob (Ez (layAll c.bs G).next co.ids i) (oo G.next c.ids m.next)):=by
  intro i j hij ⟨y,hy,hyv⟩
  obtain⟨t,h5,h6⟩:=J7 hij
  have fin:(layAll bs m).has j∧aY m.next ι ι2 co.ids j=ι2 i→((layAll bs m).nm (aY m.next ι ι2 co.ids)) j∧aY m.next ι ι2 co.ids j=ι2 i∧((layAll bs m).nm (aY m.next ι ι2 co.ids)).cap j=(r.m.nm ι2).cap i:=
   fun ⟨p,q⟩=>⟨p,q,congrArg Loc.cap q⟩
  rcases xS h5 with⟨h7,rfl⟩ | ⟨h7,h8,h9⟩
  ·
   have hcan:(aG G c.bs).get t=some y:=by rw [← hst.old t h7];exact hy
   have hι2:ι2 t=bL G.next ι c.ids t:=hst.ext t ⟨y,hcan,hyv⟩
   rcases qX h6 with⟨h10,rfl⟩ | ⟨h10,h11,h12⟩ | ⟨h10,_⟩
   ·have hmj:m.has j:=by
     refine⟨y,?_,hyv⟩
     have h13:(aG G c.bs).get j=if j<G.next then G.get j else (c.bs[j-G.next]?).map iB:=l4 j
     rw [h13,if_pos h10] at hcan
     rw [hm.base j h10];exact hcan
    exact fin ⟨hhas j hmj,by rw [hext j hmj,hι2];exact (if_pos h10).symm⟩
   ·obtain⟨_,hmj⟩:=hidh _ _ h12
    refine fin ⟨hhas j hmj,?_⟩
    rw [hext j hmj,hι2]
    unfold bL
    rw [if_neg (by omega),List.getD_eq_getElem?_getD,h12];rfl
   ·omega
  ·
   rcases qX h6 with⟨h10,_⟩ | ⟨h10,h11,_⟩ | ⟨h10,rfl⟩
   ·omega
   ·omega
   ·have e:t-G.next-c.ids.length=t-(layAll c.bs G).next:=by omega
    obtain⟨_,_,_,nb',_,_,q,_⟩:=hseen _ _ h9
    refine fin ⟨⟨iB nb',?_,tV nb'⟩,by rw [e];exact hnew _ _ h9⟩
    rw [e,hget,if_neg (by omega),show m.next+(t-(layAll c.bs G).next)-m.next=t-(layAll c.bs G).next from by omega,q];rfl
 obtain⟨v1,v2⟩:=iJ hr r.v v (jU _ _ _ hru hv) hrv
 have hcase:∀i x,(layAll bs m).get i=some x→(i<m.next∧m.get i=some x)∨∃k id b,i=m.next+k∧co.ids[k]?=some id∧r.m.get id=some b∧(layAll c.bs G).next≤id∧Y4 x=Y4 b∧
   dM P (aY m.next ι ι2 co.ids) ((layAll bs m).nm (aY m.next ι ι2 co.ids)) w'.heap (ι2 id) x:=by
  intro i x hx
  rw [hget] at hx
  split at hx
  ·exact .inl ⟨by assumption,hx⟩
  ·rename_i hi
   cases hnb:bs[i-m.next]? with
   | none=>rw [hnb] at hx;cases hx
   | some nb=>
    rw [hnb] at hx
    have hx:iB nb=x:=Option.some.inj hx
    subst hx
    have hk:i-m.next<co.ids.length:=by have:=(List.getElem?_eq_some_iff.1 hnb).1;omega
    have hkk:=List.getElem?_eq_getElem hk
    obtain⟨q0,b,nb0,nb',q1,q2,q3,q4⟩:=hseen _ _ hkk
    rw [hnb] at q3;cases q3
    exact .inr ⟨i-m.next,_,b,by omega,hkk,q1,q0,tX q2 q4,AP hr (hst.rm.blk _ _ q1) q2 q4⟩
 refine .inl ⟨I4 ι2 r.v,rfl,⟨v,layAll bs m⟩,List.mem_singleton.2 rfl,aY m.next ι ι2 co.ids,?_,v2,v1.symm⟩
 refine⟨⟨k1,?_,?_,by rw [k3];exact hm.glim,by rw [k3,k2];exact Nat.le_trans hm.limn (by omega),hm.gle,fun i hi=>by rw [hget,if_pos (by omega)];exact hm.base i hi,fun i hi=>hhas i (hm.ghas i hi),
  fun i hi=>by rw [hext i (hm.ghas i hi)];exact hm.glob i hi,fun i x hx hl=>by
   rcases hcase i x hx with⟨h1,h2⟩ | ⟨k,id,b,rfl,h2,h3,_,h5,_⟩
   ·rw [hold i h1];exact hm.spot i x h2 hl
   ·rw [hnew k id h2];exact hst.rm.spot id b h3 (by rw [← h5];exact hl)⟩,hext,hhas,by rw [k2];omega,k3,fun i hi=>by rw [hget,if_pos (by have:=hm.limn;omega)],hst.size,fun b hb _=>hheap b hb,?_,hst.os,hst.out,hst.tape⟩
 ·intro i x hx
  rcases hcase i x hx with⟨h1,h2⟩ | ⟨k,id,b,rfl,h2,h3,_,_,h4⟩
  ·rw [hold i h1]
   exact (hm.blk i x h2).mono (n:=m.nm ι) hext (Mem.aA hhas hext) fun hl=>hheap _ (cZ (hm.blk i x h2) hl)
  ·rw [hnew k id h2];exact h4
 ·intro i x hi hx hl
  rw [k3] at hi
  rcases hcase i x hx with⟨h1,h2⟩ | ⟨k,id,b,rfl,h2,h3,h4,h5,h6⟩
  ·have ho:=hm.own i x hi h2 hl
   have hb:=cZ (hm.blk i x h2) hl
   refine⟨fun j y hj hy hly=>?_,fun c e fz hcc=>?_⟩
   ·rcases hcase j y hy with⟨g1,g2⟩ | ⟨k',id',b',rfl,g2,g3,g4,g5,g6⟩
    ·rw [hold j g1,hold i h1];exact ho.alone j y hj g2 hly
    ·rw [hnew k' id' g2,hold i h1]
     have:=hnewloc id' b' g4 g3 (by rw [← g5];exact hly)
     omega
   ·rw [hold i h1,hheap _ hb] at hcc;exact ho.free c e fz hcc
  ·have hlb:Y4 b=true:=by rw [← h5];exact hl
   have ho:=hst.rm.own id b (by rw [hst.lim];exact h4) h3 hlb
   have hn:=hnewloc id b h4 h3 hlb
   refine⟨fun j y hj hy hly=>?_,fun c e fz hcc=>?_⟩
   ·rw [hnew k id h2]
    rcases hcase j y hy with⟨g1,g2⟩ | ⟨k',id',b',rfl,g2,g3,g4,g5,g6⟩
    ·rw [hold j g1]
     have:=cZ (hm.blk j y g2) hly
     omega
    ·rw [hnew k' id' g2]
     refine ho.alone id' b' (fun e=>hj ?_) g3 (by rw [← g5];exact hly)
     subst e
     have hnd:co.ids.Nodup:=by rw [hids];exact hg2
     have:k'=k:=(List.getElem?_inj (List.getElem?_eq_some_iff.1 g2).1 hnd).1 (g2.trans h2.symm)
     rw [this]
   ·rw [hnew k id h2] at hcc;exact ho.free c e fz hcc
 ·rintro b ⟨i,x,hi,hx,hl,rfl⟩
  rw [k3] at hi
  rcases hcase i x hx with⟨h1,h2⟩ | ⟨k,id,bb,rfl,h2,h3,h4,h5,h6⟩
  ·rw [hold i h1];exact .inl ⟨i,x,hi,h2,hl,rfl⟩
  ·rw [hnew k id h2];exact .inr (hnewloc id bb h4 h3 (by rw [← h5];exact hl))
end
end Go.AM
namespace Go.AM
open Go
section
variable {P:Program}
structure Sum where
 f:FuncId
 args:List o8
 bs:List NB
 a:Ans
noncomputable def sumOf (l:List Sum)(f:FuncId)(args:List o8)(bs:List NB):Option Ans:=
 List.rec none (fun s _ ih=>bi (Nat.beq s.f f) (bi (zN (cK 100) s.args args) (bi (iC s.bs bs) (some s.a) ih) ih) ih) l
theorem nV {G:Mem}:∀(l:List Sum),(∀s∈l,sG P G s.f s.args s.bs s.a)→∀f args bs a,sumOf l f args bs=some a→sG P G f args bs a
 | [],_,f,args,bs,a,h=>by cases h
 | s::l,hl,f,args,bs,a,h=>by
  have ih:=nV l (fun s hs=>hl s (by simp [hs])) f args bs a
  have h:bi (Nat.beq s.f f) (bi (zN (cK 100) s.args args) (bi (iC s.bs bs) (some s.a) (sumOf l f args bs)) (sumOf l f args bs)) (sumOf l f args bs)=some a:=h
  cases h1:Nat.beq s.f f with
  | false=>rw [h1] at h;exact ih h
  | true=>
   rw [h1] at h
   cases h2:zN (cK 100) s.args args with
   | false=>rw [h2] at h;exact ih h
   | true=>
    rw [h2] at h
    cases h3:iC s.bs bs with
    | false=>rw [h3] at h;exact ih h
    | true=>
     rw [h3] at h
     have h:some s.a=some a:=h
     cases h
     rw [← Nat.eq_of_beq_eq_true h1,← fZ (dR 100) _ _ h2,← iX _ _ h3]
     exact hl s (by simp)
structure KOk (P:Program)(K:Known):Prop where
 mix:P.follows .mixedOrders=true
 fns:∀f sf,K.fns f=some sf→J6 P f sf
 base:∃gbs,BX K.base gbs
 sum:∀f args bs a,K.sum f args bs=some a→sG P K.base f args bs a
theorem lN (K:Known)(fuel:Nat)(fn:Fn)(args:List o8)(m:Mem):G9 K fuel 0 fn args m=none:=rfl
theorem gq (K:Known)(fuel n:Nat)(fn:Fn)(args:List o8)(m:Mem):G9 K fuel (n+1) fn args m=match fn with
  | .func f=>ob (K.fns f) fun sf=>bi sf.pure (uK K (G9 K fuel n) fuel f sf args m) (F3 (G9 K fuel n) (EB K (G9 K fuel n) fuel) fuel sf args m)
  | .yield l=>zR (G9 K fuel n) fuel l args m
  | _=>none:=rfl
theorem BZ {K:Known}(hK:KOk P K){cf:L8}(hcf:tK P K.base cf){fuel:Nat}{f:FuncId}{sf:SFn}(hf:J6 P f sf){args:List o8}{bs:List NB}{a:Ans}(h:EC K cf fuel f sf args bs=some a):sG P K.base f args bs a:=by
 unfold EC at h
 cases hs:K.sum f args bs with
 | some b=>
  rw [hs] at h
  have h:some b=some a:=h
  cases h
  exact hK.sum f args bs _ hs
 | none=>rw [hs] at h;exact Dq hcf (xP hK.fns hcf fuel fun slots nt r=>iI hK.mix hcf slots nt r) hK.mix fuel hf h
theorem xV {K:Known}(hK:KOk P K)(fuel:Nat):∀n,tK P K.base (G9 K fuel n):=by
 intro n
 induction n with
 | zero=>exact⟨(fun h=>by rw [lN] at h;cases h),(fun h=>by rw [lN] at h;cases h),(fun h=>by rw [lN] at h;cases h)⟩
 | succ n ih=>
  refine⟨fun {f args m outs} h=>?_,fun {l args m outs} h {ι w} hm hargs=>?_,fun {fn args m outs} h=>?_⟩
  ·rw [gq] at h
   obtain⟨sf,h1,h⟩:=J7 h
   have hf:=hK.fns f sf h1
   refine⟨hf.ok,fun {ι w} hm hargs=>?_⟩
   cases hp:sf.pure with
   | false=>
    rw [hp] at h
    exact BO ih (xP hK.fns ih fuel fun slots nt r=>iI hK.mix ih slots nt r) fuel (fun slots nt r=>iI hK.mix ih slots nt r) hf h hm hargs
   | true=>
    rw [hp] at h
    have h:uK K (G9 K fuel n) fuel f sf args m=some outs:=h
    obtain⟨c,h2,h⟩:=J7 h
    obtain⟨a,h3,h⟩:=J7 h
    obtain⟨v,h4,h⟩:=J7 h
    obtain⟨bs,h5,h⟩:=J7 h
    cases h
    exact AR hK.base hm hargs h2 (BZ hK ih hf h3) h4 h5
  ·rw [gq] at h
   exact Av ih fuel (fun slots nt r=>iI hK.mix ih slots nt r) h hm hargs
  ·rw [gq] at h
   cases fn with
   | func f=>exact .inl ⟨f,rfl⟩
   | yield l=>exact .inr ⟨l,rfl⟩
   | _=>cases h
theorem Dt {K:Known}(hK:KOk P K){fuel n:Nat}{f:FuncId}{sf:SFn}(hf:J6 P f sf){args:List o8}{bs:List NB}{a:Ans}(h:EC K (G9 K fuel n) fuel f sf args bs=some a):sG P K.base f args bs a:=
 BZ hK (xV hK fuel n) hf h
end
end Go.AM
namespace Go.AM
open Go
noncomputable def au0 (pure rc:Bool)(a:AFn):SFn:=⟨pure,a.args,a.nslots,a.results,trC a.body,bif rc then some a.body else none⟩
theorem Nu {P:Program}{slots:List Nat}{f:FuncId}{a:AFn}(h:cFn P slots f=some a)(pure rc:Bool):J6 P f (au0 pure rc a):=by
 unfold cFn at h
 split at h
 ·cases h
 ·rename_i fn hfn
  split at h
  ·cases h
  ·rename_i c hc
   split at h
   ·rename_i b r hb hr
    split at h
    ·rename_i hok
     cases h
     simp only [Bool.and_eq_true,bne_iff_ne,ne_eq] at hok
     obtain⟨⟨⟨h1,h2⟩,h3⟩,h4⟩:=hok
     refine⟨⟨fn,hfn,by rw [hc];rfl,h4⟩,slots,fn,c,b,r,hfn,hc,hb,hr,h1,fun t ht=>?_,?_,rfl,rfl,rfl,rfl,fun c' hc'=>?_⟩
     ·exact Eq.mp Nat.blt_eq (List.all_eq_true.1 h2 t ht)
     ·have:slots.length<1152921504606846976:=Eq.mp Nat.blt_eq h3
      exact this
     ·cases rc with
      | true=>exact (Option.some.inj hc').symm
      | false=>cases hc'
    ·cases h
   ·cases h
theorem A9 {P:Program}{slots:List Nat}{f:FuncId}{pure rc:Bool}{sf:SFn}(h:(cFn P slots f).map (au0 pure rc)=some sf):J6 P f sf:=by
 cases hc:cFn P slots f with
 | none=>rw [hc] at h;cases h
 | some a=>rw [hc] at h;cases h;exact Nu hc pure rc
end Go.AM
namespace Go.AM
open Go
def TOk (P:Program)(r:Nat→Nat)(t:T (Option SFn)):Prop:=∀i sf,t.get i=some (some sf)→J6 P (r i) sf
theorem J4 {P:Program}{r:Nat→Nat}:TOk P r .e:=fun i sf h=>by cases h
def OOk (P:Program)(i:Nat)(o:Option SFn):Prop:=∀sf,o=some sf→J6 P i sf
theorem eG {P:Program}{i:Nat}:OOk P i none:=fun _ h=>by cases h
theorem J8 {P:Program}{i:Nat}{sf:SFn}(h:J6 P i sf):OOk P i (some sf):=fun _ e=>by cases e;exact h
theorem J5 {P:Program}{r:Nat→Nat}{a b:T (Option SFn)}{x:Option SFn}(ha:TOk P (fun i=>r (2*i+1)) a)(hx:OOk P (r 0) x)(hb:TOk P (fun i=>r (2*i+2)) b):TOk P r (.nd a x b):=by
 intro i sf h
 cases i with
 | zero=>exact hx sf (Option.some.inj h)
 | succ j=>
  have h:(Nat.rec (a.get (Nat.div j 2)) (fun _ _=>b.get (Nat.div j 2)) (Nat.mod j 2):Option (Option SFn))=some (some sf):=h
  rcases Nat.mod_two_eq_zero_or_one j with h2 | h2
  ·have h2':Nat.mod j 2=0:=h2
   rw [h2'] at h
   have:=ha _ sf h
   have e:2*Nat.div j 2+1=j+1:=by
    have:Nat.div j 2=j / 2:=rfl
    omega
   have this:J6 P (r (2*Nat.div j 2+1)) sf:=this
   rw [e] at this
   exact this
  ·have h2':Nat.mod j 2=1:=h2
   rw [h2'] at h
   have:=hb _ sf h
   have e:2*Nat.div j 2+2=j+1:=by
    have:Nat.div j 2=j / 2:=rfl
    omega
   have this:J6 P (r (2*Nat.div j 2+2)) sf:=this
   rw [e] at this
   exact this
theorem JQ {P:Program}{t:T (Option SFn)}(h:TOk P (fun i=>i) t):∀f sf,ob (t.get f) (fun x=>x)=some sf→J6 P f sf:=by
 intro f sf hf
 obtain⟨x,h1,h2⟩:=J7 hf
 have h2:x=some sf:=h2
 rw [h2] at h1
 exact h f sf h1
end Go.AM
namespace Go.AM
open Go
section
variable {α β γ:Type}
@[simp] theorem aeV (a:α)(f:α→Option (List β)):bnd (some [a]) f=f a:=_root_.id rfl
@[simp] theorem au1 (f:α→Option (List β)):bnd (none:Option (List α)) f=none:=_root_.id rfl
@[simp] theorem adX (a:α)(f:α→Option β):MN (some [a]) f=f a:=_root_.id rfl
@[simp] theorem Nv (a:α)(z:β)(f:α→β):(Option.rec z (fun v=>f v) (some a):β)=f a:=_root_.id rfl
@[simp] theorem Nw (z:β)(f:α→β):(Option.rec z (fun v=>f v) none:β)=z:=_root_.id rfl
end
section
variable (k:IntKind)(b:Bool)(n:Int)(s:List UInt8)(i o l c:Nat)(v:o8)(as bs:List o8)(fn:Fn){β:Type}
@[simp] theorem Vb (p:o8→β)(q:β):gW (.bool b) p q=q:=_root_.id rfl
@[simp] theorem adY (p:o8→β)(q:β):gW (.int k n) p q=q:=_root_.id rfl
@[simp] theorem adZ (p:o8→β)(q:β):gW (.str s) p q=q:=_root_.id rfl
@[simp] theorem Ny (p:o8→β)(q:β):gW .nilPtr p q=q:=_root_.id rfl
@[simp] theorem ae0 (p:o8→β)(q:β):gW (.ptr i o) p q=q:=_root_.id rfl
@[simp] theorem JR (p:o8→β)(q:β):gW .nilSlice p q=q:=_root_.id rfl
@[simp] theorem Ue (p:o8→β)(q:β):gW (.slice i o l c) p q=q:=_root_.id rfl
@[simp] theorem Nz (p:o8→β)(q:β):gW (.sliceU i o l c) p q=q:=_root_.id rfl
@[simp] theorem NA (p:o8→β)(q:β):gW .nilMap p q=q:=_root_.id rfl
@[simp] theorem ae1 (p:o8→β)(q:β):gW (.map i) p q=q:=_root_.id rfl
@[simp] theorem La (p:o8→β)(q:β):gW .nilFunc p q=q:=_root_.id rfl
@[simp] theorem Vd (p:o8→β)(q:β):gW (.func fn as bs) p q=q:=_root_.id rfl
@[simp] theorem JU (p:o8→β)(q:β):gW .nilIface p q=q:=_root_.id rfl
@[simp] theorem Uf (p:o8→β)(q:β):gW (.iface i v) p q=q:=_root_.id rfl
@[simp] theorem ae2 (p:o8→β)(q:β):gW (.agg as) p q=q:=_root_.id rfl
@[simp] theorem Ug (p:o8→β)(q:β):gW (.tuple as) p q=q:=_root_.id rfl
@[simp] theorem Uh (p:o8→β)(q:β):gW .undef p q=q:=_root_.id rfl
@[simp] theorem ae3 (p:o8→β)(q:β):gW (.pan v) p q=p v:=_root_.id rfl
end
@[simp] theorem au2 (x:o8)(ls:List o8)(env:T o8):oL0 (x::ls) env=x:=_root_.id rfl
@[simp] theorem au3 (a x:o8)(ls:List o8)(env:T o8):oL1 (a::x::ls) env=x:=_root_.id rfl
@[simp] theorem au4 (a b x:o8)(ls:List o8)(env:T o8):oL2 (a::b::x::ls) env=x:=_root_.id rfl
@[simp] theorem au5 (a b c x:o8)(ls:List o8)(env:T o8):oL3 (a::b::c::x::ls) env=x:=_root_.id rfl
@[simp] theorem aeW (k:Nat)(ls:List o8)(env:T o8):lD k ls env=ls[k]?.getD .undef:=KS k ls
@[simp] theorem aeX (v:o8)(ls:List o8)(env:T o8):O5 v ls env=v:=_root_.id rfl
@[simp] theorem ae4 (g:T o8→o8)(ls:List o8)(env:T o8):R5 g ls env=g env:=_root_.id rfl
@[simp] theorem awl (l r:T o8)(x:o8):gH (.nd l x r)=x:=_root_.id rfl
@[simp] theorem awm (g:T o8→o8)(l r:T o8)(x:o8):gL g (.nd l x r)=g l:=_root_.id rfl
@[simp] theorem awn (g:T o8→o8)(l r:T o8)(x:o8):gR g (.nd l x r)=g r:=_root_.id rfl
@[simp] theorem awo (v:o8)(l r:T o8)(x:o8):sH v (.nd l x r)=.nd l v r:=_root_.id rfl
@[simp] theorem awp (s:o8→T o8→T o8)(v:o8)(l r:T o8)(x:o8):sL s v (.nd l x r)=.nd (s v l) x r:=_root_.id rfl
@[simp] theorem awq (s:o8→T o8→T o8)(v:o8)(l r:T o8)(x:o8):sR s v (.nd l x r)=.nd l x (s v r):=_root_.id rfl
@[simp] theorem au6 (v:o8)(t:T o8):sNo v t=t:=_root_.id rfl
@[simp] theorem aeY (ls:List o8)(env:T o8):evs [] ls env=[]:=_root_.id rfl
@[simp] theorem ae5 (x:OF)(l:List OF)(ls:List o8)(env:T o8):evs (x::l) ls env=x ls env::evs l ls env:=_root_.id rfl
section
variable {β:Type}(ls:List o8)(env:T o8)(m:Mem)
@[simp] theorem aeZ (x:OF):bg x ls env=some (x ls env):=_root_.id rfl
@[simp] theorem ae6 (c a b:OF):aO c a b ls env=lT (c ls env) fun t=>some (bi t (a ls env) (b ls env)):=_root_.id rfl
@[simp] theorem ae7 (b:Bool)(k:Bool→Option β):lT (.bool b) k=k b:=_root_.id rfl
@[simp] theorem af0 (k:IntKind)(n:Int)(f:IntKind→Int→Option β):wh (.int k n) f=f k n:=_root_.id rfl
@[simp] theorem af2 (s:List UInt8)(f:List UInt8→Option β):Br (.str s) f=f s:=_root_.id rfl
@[simp] theorem af3 (i o:Nat)(f:Nat→Nat→Option β):nD (.ptr i o) f=f i o:=_root_.id rfl
@[simp] theorem af4 (l:List o8)(f:List o8→Option β):wm (.agg l) f=f l:=_root_.id rfl
@[simp] theorem af5 (l:List o8)(f:List o8→Option β):KG (.tuple l) f=f l:=_root_.id rfl
@[simp] theorem af6 (i:Nat)(z:Option β)(f:Nat→Option β):wo (.map i) z f=f i:=_root_.id rfl
@[simp] theorem ae8 (z:Option β)(f:Nat→Option β):wo .nilMap z f=z:=_root_.id rfl
@[simp] theorem af7 (z:Option β)(f g:Nat→Nat→Nat→Nat→Option β):vSl .nilSlice z f g=z:=_root_.id rfl
@[simp] theorem xW (a b c d:Nat)(z:Option β)(f g:Nat→Nat→Nat→Nat→Option β):vSl (.slice a b c d) z f g=f a b c d:=_root_.id rfl
@[simp] theorem uh (a b c d:Nat)(z:Option β)(f g:Nat→Nat→Nat→Nat→Option β):vSl (.sliceU a b c d) z f g=g a b c d:=_root_.id rfl
@[simp] theorem af8 (fn:Fn)(a b:List o8)(f:Fn→List o8→List o8→Option β):MJ (.func fn a b) f=f fn a b:=_root_.id rfl
@[simp] theorem pX (n:Nat)(k:Nat→Option β):KH (n:Int) k=k n:=_root_.id rfl
@[simp] theorem Ui (n:Nat)(k:Nat→Option β):KH (.ofNat n) k=k n:=_root_.id rfl
@[simp] theorem Ve (k:Nat→Option β):KH 0 k=k 0:=_root_.id rfl
@[simp] theorem ae9 (k:Nat→Option β):KH 1 k=k 1:=_root_.id rfl
@[simp] theorem vI (k:IntKind)(n:Int)(f:Nat→Option β):kT (.int k n) f=KH n f:=_root_.id rfl
@[simp] theorem vJ (k:IntKind):kEq k k=true:=by cases k<;>rfl
@[simp] theorem au7 (f:IB)(g:SB)(x y:OF):pIb f g x y ls env=DY f g (x ls env) (y ls env):=_root_.id rfl
@[simp] theorem aea (f:IB)(g:SB)(k:IntKind)(a b:Int):DY f g (.int k a) (.int k b)=f k a b:=by
 show bi (kEq k k) (f k a b) none=_
 rw [vJ];rfl
@[simp] theorem aeb (f:IB)(g:SB)(a b:List UInt8):DY f g (.str a) (.str b)=g a b:=_root_.id rfl
@[simp] theorem af9 (x y:OF):aeM x y ls env=adN (x ls env) (y ls env):=_root_.id rfl
@[simp] theorem afa (x y:OF):KJ x y ls env=TW (x ls env) (y ls env):=_root_.id rfl
@[simp] theorem afb (a b:Int):bG .i64 a b=some (.int .i64 (w64 (a+b))):=_root_.id rfl
@[simp] theorem afc (a b:Int):iA .i64 a b=some (.int .i64 (w64 (a-b))):=_root_.id rfl
@[simp] theorem afd (a b:Int):vY .i64 a b=some (.int .i64 (w64 (a*b))):=_root_.id rfl
@[simp] theorem au8 (k:IntKind)(a b:Int):iEq k a b=some (.bool (decide (a=b))):=by
 show some (o8.bool (rR a b))=_
 rw [iK,show (a==b)=decide (a=b) from rfl]
@[simp] theorem au9 (k:IntKind)(a b:Int):iNe k a b=some (.bool (!decide (a=b))):=by
 show some (o8.bool (!rR a b))=_
 rw [iK,show (a==b)=decide (a=b) from rfl]
@[simp] theorem aua (k:IntKind)(a b:Int):iLt k a b=some (.bool (decide (a<b))):=by rw [← fq];rfl
@[simp] theorem aub (k:IntKind)(a b:Int):iLe k a b=some (.bool (decide (a≤b))):=by
 show some (o8.bool (!nG b a))=_
 rw [fq,show (!decide (b<a))=decide (a≤b) from by rw [Bool.eq_iff_iff];simp]
@[simp] theorem auc (k:IntKind)(a b:Int):iGt k a b=some (.bool (decide (b<a))):=by rw [← fq];rfl
@[simp] theorem aud (k:IntKind)(a b:Int):iGe k a b=some (.bool (decide (b≤a))):=by
 show some (o8.bool (!nG a b))=_
 rw [fq,show (!decide (a<b))=decide (b≤a) from by rw [Bool.eq_iff_iff];simp]
theorem aR {n:Int}(h:-9223372036854775808≤n)(h':n<9223372036854775808):w64 n=n:=by
 cases n with
 | ofNat m=>
  show bi (Nat.blt m 9223372036854775808) _ _=_
  rw [show Nat.blt m 9223372036854775808=true from Nat.blt_eq.mpr (by simp at h';omega)];rfl
 | negSucc m=>
  show bi (Nat.blt m 9223372036854775808) _ _=_
  rw [show Nat.blt m 9223372036854775808=true from Nat.blt_eq.mpr (by omega)];rfl
@[simp] theorem aue (f:EqF)(x y:OF):pEq f x y ls env=ob (f (x ls env) (y ls env)) fun b=>some (.bool b):=_root_.id rfl
@[simp] theorem auf (f:EqF)(x y:OF):pNe f x y ls env=ob (f (x ls env) (y ls env)) fun b=>some (.bool (!b)):=_root_.id rfl
@[simp] theorem afe (x:OF):uJ x ls env=lT (x ls env) fun b=>some (.bool (!b)):=_root_.id rfl
@[simp] theorem aff (x:OF):TY x ls env=wh (x ls env) fun k n=>some (.int k (iy k (0-n))):=_root_.id rfl
@[simp] theorem aec (k:IntKind)(x:OF):jv k x ls env=wh (x ls env) fun _ n=>some (.int k (iy k n)):=_root_.id rfl
@[simp] theorem Vf (t:TypeId)(x:OF):wC t x ls env=some (.iface t (x ls env)):=_root_.id rfl
@[simp] theorem aed (fn:Fn)(a b:List OF):dD fn a b ls env=some (.func fn (evs a ls env) (evs b ls env)):=_root_.id rfl
@[simp] theorem Lb (x:OF):cu x ls env=sM (x ls env):=_root_.id rfl
@[simp] theorem Uj (i o:Nat):sM (.ptr i o)=some (.ptr i o):=_root_.id rfl
@[simp] theorem NC (f:FuncId)(a b:List o8):sM (.func (.func f) a b)=some (.func (.func f) a b):=_root_.id rfl
@[simp] theorem Vg (o:Nat)(x:OF):H8 o x ls env=nD (x ls env) fun id off=>some (.ptr id (off+o)):=_root_.id rfl
@[simp] theorem aee (off:Nat)(x:OF):Ej off x ls env=wm (x ls env) fun cs=>cs[off]?:=by
 show wm (x ls env) (fun cs=>vX off cs)=_
 simp
@[simp] theorem aef (off k:Nat)(x:OF):Jc off k x ls env=wm (x ls env) fun cs=>ob (takeN k (cs.drop off)) fun l=>some (.agg l):=by
 show wm (x ls env) (fun cs=>ob (takeN k (jk off cs)) fun l=>some (o8.agg l))=_
 simp
@[simp] theorem Uk {α:Type}(l:List α):takeN 0 l=some []:=_root_.id rfl
@[simp] theorem Ul {α:Type}(n:Nat)(x:α)(l:List α):takeN (n+1) (x::l)=ob (takeN n l) fun r=>some (x::r):=_root_.id rfl
@[simp] theorem afg (x:OF)(i:Nat):pExt x i ls env=KG (x ls env) fun l=>l[i]?:=by
 show KG (x ls env) (fun l=>vX i l)=_
 simp
@[simp] theorem afh (x:OF):lV x ls env=vSl (x ls env) (some (.int .i64 0)) (fun _ _ n _=>some (.int .i64 n)) (fun _ _ n _=>some (.int .i64 n)):=_root_.id rfl
@[simp] theorem aeg (x:OF):Cy x ls env=Br (x ls env) fun s=>some (.int .i64 s.length):=by
 show Br (x ls env) (fun s=>some (o8.int .i64 (.ofNat (len' s))))=_
 simp
@[simp] theorem afi (x:OF):Ua x ls env=vSl (x ls env) (some (.int .i64 0)) (fun _ _ _ c=>some (.int .i64 c)) (fun _ _ _ _=>none):=_root_.id rfl
theorem R3 (len i:Nat)(k:Nat→Option β)(h:i<len):idx len (.int .i64 i) k=k i:=by
 show bi (Nat.blt i len) (k i) none=_
 rw [show Nat.blt i len=true from Nat.blt_eq.mpr h];rfl
@[simp] theorem Vh (es:Nat)(x i:OF):J3 es x i ls env=vSl (x ls env) none (fun id off len _=>idx len (i ls env) fun k=>some (.ptr id (off+k*es)))
  (fun id off len _=>idx len (i ls env) fun k=>some (.ptr id (off+k*es))):=rfl
@[simp] theorem Lc (es n:Nat)(x i:OF):bA es n x i ls env=nD (x ls env) fun id off=>idx n (i ls env) fun k=>some (.ptr id (off+k*es)):=_root_.id rfl
@[simp] theorem afj (cs:List o8):lay [] ls env cs=some cs:=_root_.id rfl
theorem JV (p:Nat×Nat×OF)(l:List (Nat×Nat×OF))(cs:List o8):lay (p::l) ls env cs =
  bi (Nat.beq (len' (p.2.2 ls env).cells) p.2.1) (bi (Nat.ble (Nat.add p.1 p.2.1) (len' cs)) (lay l ls env (jq p.1 (p.2.2 ls env).cells cs)) none) none:=rfl
@[simp] theorem Vi (z:List o8)(ps:List (Nat×Nat×OF)):J9 z ps ls env=ob (lay ps ls env z) fun l=>some (.agg l):=_root_.id rfl
noncomputable def ld1 (b:Option Blk)(off:Nat):Option o8:=X0 b fun rs n rows=>cell1 rs n rows off
noncomputable def ldN (b:Option Blk)(off k:Nat):Option o8:=X0 b fun rs n rows=>ob (jr rs n rows off k) fun l=>some (.agg l)
noncomputable def stB (b:Option Blk)(off:Nat)(vs:List o8):Option Blk:=X0 b fun rs n rows=>ob (X8 rs n rows off vs) fun rows'=>some (.cells rs n rows')
@[simp] theorem Vj (a:OF):eT a ls env m=nD (a ls env) fun id off=>ld1 (m.get id) off:=_root_.id rfl
@[simp] theorem Vk (k:Nat)(a:OF):K9 k a ls env m=nD (a ls env) fun id off=>ldN (m.get id) off k:=_root_.id rfl
@[simp] theorem bC (rs n:Nat)(rows:T (List o8))(k:Nat→Nat→T (List o8)→Option β):X0 (some (.cells rs n rows)) k=k rs n rows:=_root_.id rfl
@[simp] theorem aug (es:List (o8×o8))(k:List (o8×o8)→Option β):vEs (some (.map es)) k=k es:=_root_.id rfl
theorem aS {rs n:Nat}{rows:T (List o8)}{i j:Nat}{row:List o8}(hj:j<rs)(hi:i<n)(h:rows.get i=some row):cell1 rs n rows (i*rs+j)=row[j]?:=by
 unfold cell1
 have h1:Nat.div (i*rs+j) rs=i:=by show (i*rs+j) / rs=i;rw [Nat.mul_comm,Nat.mul_add_div (by omega),Nat.div_eq_of_lt hj];rfl
 have h2:Nat.mod (i*rs+j) rs=j:=by show (i*rs+j)%rs=j;rw [Nat.mul_comm,Nat.mul_add_mod,Nat.mod_eq_of_lt hj]
 rw [h1,h2,h,show Nat.blt i n=true from Nat.blt_eq.mpr hi]
 exact fM _ _
theorem nW {rs n:Nat}{rows:T (List o8)}{i j k:Nat}{row:List o8}(hj:j<rs)(hi:i<n)(h:rows.get i=some row)(hl:row.length=rs)(hk:j+k≤rs):
  jr rs n rows (i*rs+j) k=some ((row.drop j).take k):=by
 unfold jr
 have h1:Nat.div (i*rs+j) rs=i:=by show (i*rs+j) / rs=i;rw [Nat.mul_comm,Nat.mul_add_div (by omega),Nat.div_eq_of_lt hj];rfl
 have h2:Nat.mod (i*rs+j) rs=j:=by show (i*rs+j)%rs=j;rw [Nat.mul_comm,Nat.mul_add_mod,Nat.mod_eq_of_lt hj]
 rw [h1,h2,h,show Nat.blt i n=true from Nat.blt_eq.mpr hi]
 simp only [ay,O3,eZ]
 cases hz:Nat.beq j 0 with
 | false=>simp only [Y8];exact fD _ _ (by simp;omega)
 | true=>
  have hz:=Nat.eq_of_beq_eq_true hz
  subst hz
  simp only [ay]
  cases hk':Nat.beq k rs with
  | true=>have hk':=Nat.eq_of_beq_eq_true hk';subst hk';simp [hl.symm]
  | false=>simp only [Y8,List.drop_zero];exact fD _ _ (by omega)
end
theorem div_lt {a b:Nat}(h:a<b):Nat.div a b=0:=Nat.div_eq_of_lt h
theorem mod_lt {a b:Nat}(h:a<b):Nat.mod a b=a:=Nat.mod_eq_of_lt h
@[simp] theorem vK (cs:List o8)(off:Nat):ld1 (some (D9 cs)) off=cs[off]?:=by
 show cell1 (len' cs) 1 (.nd .e cs .e) off=_
 rw [P8]
 unfold cell1
 by_cases h:off<cs.length
 ·rw [div_lt h,mod_lt h]
  exact fM _ _
 ·rw [show cs[off]?=none from by simp;omega]
  by_cases h0:cs.length=0
  ·rw [h0,show Nat.div off 0=0 from Nat.div_zero off,show Nat.mod off 0=off from Nat.mod_zero off]
   show vX off cs=none
   rw [fM];simp;omega
  ·have:1≤Nat.div off cs.length:=(Nat.one_le_div_iff (by omega)).2 (by omega)
   rw [show Nat.blt (Nat.div off cs.length) 1=false from by
    cases hb:Nat.blt (Nat.div off cs.length) 1 with
    | false=>rfl
    | true=>have:=Nat.blt_eq.mp hb;omega]
theorem C8 {cs:List o8}{off k:Nat}(h:off+k≤cs.length)(h0:off<cs.length):ldN (some (D9 cs)) off k=some (.agg ((cs.drop off).take k)):=by
 show ob (jr (len' cs) 1 (.nd .e cs .e) off k) (fun l=>some (o8.agg l))=_
 have:=nW (rs:=cs.length) (n:=1) (rows:=.nd .e cs .e) (i:=0) (j:=off) (k:=k) (row:=cs) h0 (by omega) rfl rfl h
 rw [Nat.zero_mul,Nat.zero_add] at this
 rw [P8,this];rfl
theorem A8 {cs vs:List o8}{off:Nat}(h:off+vs.length≤cs.length)(h0:off<cs.length):stB (some (D9 cs)) off vs=some (D9 (cs.take off++(vs++cs.drop (off+vs.length)))):=by
 show ob (X8 (len' cs) 1 (.nd .e cs .e) off vs) (fun rows'=>some (Blk.cells (len' cs) 1 rows'))=_
 have h1:Nat.ble (Nat.add off vs.length) cs.length=true:=Nat.ble_eq_true_of_le h
 have h2:X8 cs.length 1 (.nd .e cs .e) off vs=some (T.nd .e (jq off vs cs) .e):=by
  unfold X8
  rw [div_lt h0,mod_lt h0,P8]
  show bi (Nat.ble (Nat.add off vs.length) cs.length) (some (T.nd .e (jq off vs cs) .e)) none=_
  rw [h1];rfl
 rw [P8,h2,gK off vs cs (by omega)]
 show some (Blk.cells cs.length 1 _)=some (Blk.cells (len' _) 1 _)
 rw [P8]
 congr 2
 simp
 omega
def Mem.Ok (m:Mem):Prop:=T.Ok m.t m.next
theorem Mem.Ok.new {m:Mem}(h:m.Ok)(b:Blk):(m.new b).Ok:=T.Ok.push h b
theorem Mem.Ok.set {m:Mem}(h:m.Ok){i:Nat}(hi:i<m.next)(b:Blk):(m.set i b).Ok:=T.Ok.put h i b hi
theorem U4 {m:Mem}(h:m.Ok)(b:Blk){i j:Nat}(hj:j<m.next)(hi:i=j):(m.set j b).get i=some b:=by rw [Mem.Z6 h hj,if_pos hi]
theorem aZ {m:Mem}(h:m.Ok)(b:Blk){i j:Nat}(hj:j<m.next)(hi:i≠j):(m.set j b).get i=m.get i:=by rw [Mem.Z6 h hj,if_neg hi]
theorem X7 {β:Type}{m:Mem}{id off:Nat}{vs:List o8}{k:Mem→Option β}(hl:m.lim≤id)(h1:Q6 vs=true):storeAt m id off vs k=ob (stB (m.get id) off vs) fun b=>k (m.set id b):=by
 unfold storeAt
 rw [show Nat.blt id m.lim=false from by
  cases hb:Nat.blt id m.lim with
  | false=>rfl
  | true=>have:=Nat.blt_eq.mp hb;omega,h1]
 simp only [Y8,ay]
 unfold stB
 match m.get id with
 | some (.cells rs n rows)=>
  show ob (X8 rs n rows off vs) _=ob (ob (X8 rs n rows off vs) _) _
  cases X8 rs n rows off vs<;>rfl
 | some .void | some .dead | some (.map _) | some (.iter ..) | some (.tail _) | some (.loop ..) | some .deferred | none=>rfl
theorem FP (sz:Nat)(a x:OF)(cf:L8)(ls:List o8)(env:T o8)(m:Mem):K3 sz a x cf ls env m=nD (a ls env) fun id off=>
  bi (Nat.beq (x ls env).cells.length sz) (storeAt m id off (x ls env).cells fun m'=>some [⟨.undef,m'⟩]) none:=by
 show nD (a ls env) (fun id off=>bi (Nat.beq (len' (x ls env).cells) sz) (storeAt m id off (x ls env).cells fun m'=>one .undef m') none)=_
 simp only [P8];rfl
@[simp] theorem Um:Q6 []=true:=_root_.id rfl
@[simp] theorem ND (v:o8)(l:List o8):Q6 (v::l)=bi (K4 v) (Q6 l) false:=_root_.id rfl
section
variable (cf:L8)(ls:List o8)(env:T o8)(m:Mem)(d:o8→T o8→T o8)(k:RC)
@[simp] theorem aeh:u7 cf ls env m=some [⟨env,m,none,[]⟩]:=_root_.id rfl
@[simp] theorem auh (f:PF):rcP f d k cf ls env m=ob (f ls env) fun v=>k cf (v::ls) (d v env) m:=_root_.id rfl
@[simp] theorem afk (f:PF):o9 f k cf ls env m=ob (f ls env) fun v=>k cf (v::ls) env m:=_root_.id rfl
@[simp] theorem aui (f:RF):rcR f d k cf ls env m=ob (f ls env m) fun v=>k cf (v::ls) (d v env) m:=_root_.id rfl
@[simp] theorem afl (f:RF):F9 f k cf ls env m=ob (f ls env m) fun v=>k cf (v::ls) env m:=_root_.id rfl
@[simp] theorem Vl:II m none=m:=_root_.id rfl
@[simp] theorem Vm (b:Blk):II m (some b)=m.new b:=_root_.id rfl
@[simp] theorem auj (f:LF):rcL f d k cf ls env m=ob (f ls env m.next) fun r=>k cf (r.1::ls) (d r.1 env) (II m r.2):=_root_.id rfl
@[simp] theorem afm (f:LF):R9 f k cf ls env m=ob (f ls env m.next) fun r=>k cf (r.1::ls) env (II m r.2):=_root_.id rfl
@[simp] theorem auk (f:EF):rcE f d k cf ls env m=bnd (f cf ls env m) fun r=>gW r.v (fun x=>some [⟨env,r.m,some x,[]⟩]) (k cf (r.v::ls) (d r.v env) r.m):=_root_.id rfl
@[simp] theorem afn (f:EF):G8 f k cf ls env m=bnd (f cf ls env m) fun r=>gW r.v (fun x=>some [⟨env,r.m,some x,[]⟩]) (k cf (r.v::ls) env r.m):=_root_.id rfl
@[simp] theorem Vn (z:List o8)(i:Nat):bR z ls env i=some (.ptr i 0,some (D9 z)):=_root_.id rfl
@[simp] theorem afo (x:OF)(i:Nat):Jf x ls env i=some (.ptr i 0,some (D9 (x ls env).cells)):=_root_.id rfl
@[simp] theorem Vo (i:Nat):jw ls env i=some (.map i,some (.map [])):=_root_.id rfl
@[simp] theorem Vp (l:List o8):(o8.agg l).cells=l:=_root_.id rfl
@[simp] theorem Vq (k:IntKind)(n:Int):(o8.int k n).cells=[.int k n]:=_root_.id rfl
@[simp] theorem Un (b:Bool):(o8.bool b).cells=[.bool b]:=_root_.id rfl
@[simp] theorem Vr (s:List UInt8):(o8.str s).cells=[.str s]:=_root_.id rfl
@[simp] theorem Vs (i o:Nat):(o8.ptr i o).cells=[.ptr i o]:=_root_.id rfl
@[simp] theorem Vt (i:Nat):(o8.map i).cells=[.map i]:=_root_.id rfl
@[simp] theorem cells_func (f:Fn)(a b:List o8):(o8.func f a b).cells=[.func f a b]:=_root_.id rfl
@[simp] theorem NG (a b c d:Nat):(o8.slice a b c d).cells=[.slice a b c d]:=_root_.id rfl
@[simp] theorem Ld (a b c d:Nat):(o8.sliceU a b c d).cells=[.sliceU a b c d]:=_root_.id rfl
@[simp] theorem IU:o8.nilSlice.cells=[.nilSlice]:=_root_.id rfl
@[simp] theorem aei (f:FuncId)(as:List OF):D8 f as cf ls env m=cf (.func f) (evs as ls env) m:=_root_.id rfl
@[simp] theorem Vu (f:OF)(as:List OF):bS f as cf ls env m=MK cf m (evs as ls env) (f ls env):=_root_.id rfl
@[simp] theorem Uo (as:List o8)(f:FuncId)(a b:List o8):MK cf m as (.func (.func f) a b)=cf (.func f) (a++(as++b)) m:=by
 show cf (.func f) (gJ a (gJ as b)) m=_
 simp
end
@[simp] theorem aej (b:Bool):isB true (.bool b)=b:=by cases b<;>rfl
@[simp] theorem Vv (b:Bool):isB false (.bool b)=!b:=by cases b<;>rfl
section
variable (w:Bool)(x:OF)(ls:List o8)(env:T o8)(m:Mem)
@[simp] theorem awr (f:PF):gP x w f ls env=bi (isB w (x ls env)) (f ls env) (some .undef):=_root_.id rfl
@[simp] theorem aul (f:RF):gRd x w f ls env m=bi (isB w (x ls env)) (f ls env m) (some .undef):=_root_.id rfl
@[simp] theorem aum (f:LF)(i:Nat):gLk x w f ls env i=bi (isB w (x ls env)) (f ls env i) (some (.undef,none)):=_root_.id rfl
@[simp] theorem aws (f:EF)(cf:L8):gE x w f cf ls env m=bi (isB w (x ls env)) (f cf ls env m) (some [⟨.undef,m⟩]):=_root_.id rfl
end
@[simp] theorem T.aek {α:Type}(x:α)(t:T α)(i:Nat):T.rep x 0 t i=t:=_root_.id rfl
attribute [simp] T.uM T.T9 T.aM
section
variable (cf:L8)(fu:Nat)(ir:Option Nat)(env:T o8)(m:Mem)(k:List Mk)
@[simp] theorem afp (x:X5):rT x env m k=some [⟨x,env,m,k,none⟩]:=_root_.id rfl
@[simp] theorem Vw:D6 cf fu ir env m k=some [⟨.normal,env,m,k,none⟩]:=_root_.id rfl
@[simp] theorem ael (r:RC):j4 r cf fu ir env m k=bnd (r cf [] env m) (kU k):=_root_.id rfl
@[simp] theorem Vx:kU k ⟨env,m,none,[]⟩=some [⟨.normal,env,m,k,none⟩]:=_root_.id rfl
@[simp] theorem Vy (n:Nat)(r:DC):I9 n r cf fu ir env m k=bnd (r cf m.next [] env (reserve n m) [reserve n m]) (kU k):=_root_.id rfl
noncomputable def aem (b:SC)(cf:L8)(fu:Nat)(ir:Option Nat)(o:Out):Option (List Out):=X5.rec (b cf fu ir o.env o.m o.marks) (fun _=>some [o]) (some [o]) o.x
@[simp] theorem aen (a b:SC):d9 a b cf fu ir env m k=bnd (a cf fu ir env m k) (aem b cf fu ir):=_root_.id rfl
@[simp] theorem NH (b:SC)(p:Option o8):aem b cf fu ir ⟨.normal,env,m,k,p⟩=b cf fu ir env m k:=_root_.id rfl
@[simp] theorem Vz (b:SC)(i:Nat)(p:Option o8):aem b cf fu ir ⟨.exit i,env,m,k,p⟩=some [⟨.exit i,env,m,k,p⟩]:=_root_.id rfl
@[simp] theorem aeo (b:SC)(p:Option o8):aem b cf fu ir ⟨.ret,env,m,k,p⟩=some [⟨.ret,env,m,k,p⟩]:=_root_.id rfl
@[simp] theorem VA (c:OF)(a b:SC):C9 c a b cf fu ir env m k=lT (c [] env) fun t=>bi t (a cf fu ir env m k) (b cf fu ir env m k):=_root_.id rfl
noncomputable def aep (id:Nat)(o:Out):Option (List Out):=X5.rec (some [o]) (fun id'=>bi (Nat.beq id id') (rT .normal o.env o.m o.marks) (some [o])) (some [o]) o.x
@[simp] theorem Uq (id:Nat)(a:SC):u6 id a cf fu ir env m k=bnd (a cf fu ir env m k) (aep id):=_root_.id rfl
@[simp] theorem NI (id:Nat)(p:Option o8):aep id ⟨.normal,env,m,k,p⟩=some [⟨.normal,env,m,k,p⟩]:=_root_.id rfl
@[simp] theorem aer (id:Nat)(p:Option o8):aep id ⟨.ret,env,m,k,p⟩=some [⟨.ret,env,m,k,p⟩]:=_root_.id rfl
@[simp] theorem VB (id i:Nat)(p:Option o8):aep id ⟨.exit i,env,m,k,p⟩=bi (Nat.beq id i) (some [⟨.normal,env,m,k,none⟩]) (some [⟨.exit i,env,m,k,p⟩]):=_root_.id rfl
@[simp] theorem VD (a:SC):H6 a cf fu ir env m k=V9 (fun env m k=>a cf fu ir env m k) fu env m k:=_root_.id rfl
noncomputable def JW (f:T o8→Mem→List Mk→Option (List Out))(o:Out):Option (List Out):=X5.rec (f o.env o.m o.marks) (fun _=>some [o]) (some [o]) o.x
theorem F7 (body:T o8→Mem→List Mk→Option (List Out))(n:Nat):V9 body (n+1) env m k=bnd (body env m k) (JW (V9 body n)):=rfl
@[simp] theorem Le (f:T o8→Mem→List Mk→Option (List Out))(p:Option o8):JW f ⟨.normal,env,m,k,p⟩=f env m k:=_root_.id rfl
@[simp] theorem Ur (f:T o8→Mem→List Mk→Option (List Out))(i:Nat)(p:Option o8):JW f ⟨.exit i,env,m,k,p⟩=some [⟨.exit i,env,m,k,p⟩]:=_root_.id rfl
@[simp] theorem VE (f:T o8→Mem→List Mk→Option (List Out))(p:Option o8):JW f ⟨.ret,env,m,k,p⟩=some [⟨.ret,env,m,k,p⟩]:=_root_.id rfl
@[simp] theorem VF (id:Nat):bf id cf fu ir env m k=some [⟨.exit id,env,m,k,none⟩]:=_root_.id rfl
@[simp] theorem aes:F8 cf fu ir env m k=some [⟨.ret,env,m,k,none⟩]:=_root_.id rfl
end
section
variable (cf:L8)(b:Nat)(ls:List o8)(env:T o8)(m:Mem)(gs:List Mem)(d:o8→T o8→T o8)(k:DC)(c:Nat)
attribute [simp] xL xM
@[simp] theorem aeu:M0 cf b ls env m gs=some [⟨env,m,none,[]⟩]:=_root_.id rfl
@[simp] theorem aun (f:PF):dcP f d k cf b ls env m gs=ob (f ls env) fun v=>k cf b (v::ls) (d v env) m gs:=_root_.id rfl
@[simp] theorem auo (f:RF):dcR f c d k cf b ls env m gs=ob (f ls env (hd m gs)) fun v=>bi (stable f ls env v c (tl gs)) (k cf b (v::ls) (d v env) m gs) none:=_root_.id rfl
@[simp] theorem aup (f:LF):dcL f c d k cf b ls env m gs=ob (f ls env (b+c)) fun r=>bi (isVoid (m.get (b+c))) (bi (jy (b+c) gs) (k cf b (r.1::ls) (d r.1 env) (UK m (b+c) r.2) gs) none) none:=_root_.id rfl
@[simp] theorem auq (f:EF):dcE f d k cf b ls env m gs=MN (f cf ls env m) fun r=>gW r.v (fun _=>none) (k cf b (r.v::ls) (d r.v env) r.m (r.m::gs)):=_root_.id rfl
@[simp] theorem afq (g:Mem):hd m (g::gs)=g:=_root_.id rfl
@[simp] theorem afr (g:Mem):tl (g::gs)=gs:=_root_.id rfl
@[simp] theorem VG (i:Nat)(x:Blk):UK m i (some x)=m.set i x:=_root_.id rfl
@[simp] theorem NJ:isVoid (some .void)=true:=_root_.id rfl
@[simp] theorem NK (i:Nat):jy i []=true:=_root_.id rfl
@[simp] theorem Lf (i:Nat)(g:Mem):jy i (g::gs)=bi (isVoid (g.get i)) (jy i gs) false:=_root_.id rfl
@[simp] theorem NM (f:RF)(v:o8):stable f ls env v 0 gs=true:=_root_.id rfl
@[simp] theorem NN (f:RF)(v:o8)(n:Nat)(g:Mem):stable f ls env v (n+1) (g::gs)=bi (Option.rec false (fun u=>cK 100 u v) (f ls env g)) (stable f ls env v n gs) false:=_root_.id rfl
end
@[simp] theorem IV (env:T o8):aF [] [] env=some env:=_root_.id rfl
@[simp] theorem FQ (j:Option Nat)(js:List (Option Nat))(v:o8)(vs:List o8)(env:T o8):aF (j::js) (v::vs) env=aF js vs (trD j v env):=_root_.id rfl
@[simp] theorem VH (dcf:jg)(rs:List uI)(env:T o8)(m:Mem):leave dcf rs ⟨.ret,env,m,[],none⟩=ob (results rs env m) fun l=>some [⟨result l,m⟩]:=_root_.id rfl
@[simp] theorem Lg (dcf:jg)(rs:List uI)(env:T o8)(m:Mem):leave dcf rs ⟨.normal,env,m,[],none⟩=ob (results rs env m) fun l=>some [⟨result l,m⟩]:=_root_.id rfl
@[simp] theorem NP (env:T o8)(m:Mem):results [] env m=some []:=_root_.id rfl
@[simp] theorem results_tmp (j:Nat)(rs:List uI)(env:T o8)(m:Mem):results (.tmp j::rs) env m=ob (env.get j) fun v=>ob (results rs env m) fun l=>some (v::l):=_root_.id rfl
@[simp] theorem Us:result []=.tuple []:=_root_.id rfl
@[simp] theorem Ut (v:o8):result [v]=v:=_root_.id rfl
@[simp] theorem Uu (v x:o8)(l:List o8):result (v::x::l)=.tuple (v::x::l):=_root_.id rfl
structure Ext (m m':Mem):Prop where
 ok:T.Ok m'.t m'.next
 next:m.next≤m'.next
 lim:m'.lim=m.lim
 old:∀i,i<m.next→m'.get i=m.get i
theorem Ext.refl {m:Mem}(h:T.Ok m.t m.next):Ext m m:=⟨h,Nat.le_refl _,rfl,fun _ _=>rfl⟩
theorem Ext.trans {a b c:Mem}(h:Ext a b)(k:Ext b c):Ext a c:=
 ⟨k.ok,Nat.le_trans h.next k.next,k.lim.trans h.lim,fun i hi=>(k.old i (Nat.lt_of_lt_of_le hi h.next)).trans (h.old i hi)⟩
theorem Ext.new {a m:Mem}(h:Ext a m)(b:Blk):Ext a (m.new b):=
 ⟨h.ok.push b,Nat.le_succ_of_le h.next,h.lim,fun i hi=>by rw [Mem.Y5 h.ok,if_neg (by have:=h.next;omega)];exact h.old i hi⟩
theorem Ext.set {a m:Mem}(h:Ext a m){i:Nat}(hi:i<m.next)(hn:a.next≤i)(b:Blk):Ext a (m.set i b):=
 ⟨h.ok.put _ _ hi,h.next,h.lim,fun j hj=>by rw [Mem.Z6 h.ok hi,if_neg (by omega)];exact h.old j hj⟩
theorem Ext.get {a m:Mem}(h:Ext a m){i:Nat}{b:Blk}(ha:T.Ok a.t a.next)(hg:a.get i=some b):m.get i=some b:=
 (h.old i (Mem.L9 ha hg)).trans hg
def dF (m:Mem)(v:o8)(xs:List Int):Prop:=
 (v=.nilSlice∧xs=[])∨∃id,((∃c,v=.slice id 0 xs.length c)∨∃es,v=.sliceU id 0 xs.length es)∧id<m.next∧(xs=[]∨∃n rows,m.get id=some (.cells 1 n rows)∧xs.length≤n∧∀i (h:i<xs.length),rows.get i=some [.int .i64 xs[i]])
theorem dF.ext {m m':Mem}(h:Ext m m'){v:o8}{xs:List Int}(hv:dF m v xs):dF m' v xs:=by
 rcases hv with hv | ⟨id,h1,h2,h3⟩
 ·exact .inl hv
 ·refine .inr ⟨id,h1,Nat.lt_of_lt_of_le h2 h.next,?_⟩
  rcases h3 with h3 | ⟨n,rows,h4,h5,h6⟩
  ·exact .inl h3
  ·exact .inr ⟨n,rows,(h.old id h2).trans h4,h5,h6⟩
theorem NQ {n i:Nat}{rows:T (List o8)}{v:o8}(h:i<n)(hr:rows.get i=some [v]):ld1 (some (.cells 1 n rows)) i=some v:=by
 have:=aS (rs:=1) (n:=n) (rows:=rows) (i:=i) (j:=0) (by omega) h hr
 rw [Nat.mul_one] at this
 exact this
theorem U1 {i:Nat}(h:i<4611686018427387904):w64 ((i:Int)+1)=((i+1:Nat):Int):=by rw [aR (by omega) (by omega)];rfl
theorem dF.at {m:Mem}{v:o8}{xs:List Int}(h:dF m v xs){i:Nat}(hi:i<xs.length):
  ∃id,vSl v none (fun id off len _=>idx len (.int .i64 i) fun k=>some (o8.ptr id (off+k))) (fun id off len _=>idx len (.int .i64 i) fun k=>some (o8.ptr id (off+k)))=some (.ptr id i)∧id<m.next∧ld1 (m.get id) i=some (.int .i64 xs[i]):=by
 rcases h with⟨_,rfl⟩ | ⟨id,h1,h2,h3⟩
 ·simp at hi
 ·rcases h3 with rfl | ⟨n,rows,h4,h5,h6⟩
  ·simp at hi
  ·refine⟨id,?_,h2,by rw [h4];exact NQ (by omega) (h6 i hi)⟩
   rcases h1 with⟨c,rfl⟩ | ⟨c,rfl⟩
   ·simp only [xW]
    rw [R3 _ _ _ hi];simp
   ·simp only [uh]
    rw [R3 _ _ _ hi];simp
theorem dF.cells {m:Mem}{v:o8}{xs:List Int}(h:dF m v xs):v.cells=[v]:=by
 rcases h with⟨rfl,rfl⟩ | ⟨id,⟨c,rfl⟩ | ⟨c,rfl⟩,_⟩<;>rfl
theorem dF.pan {m:Mem}{v:o8}{xs:List Int}(h:dF m v xs){β:Type}(p:o8→β)(q:β):gW v p q=q:=by
 rcases h with⟨rfl,rfl⟩ | ⟨id,⟨c,rfl⟩ | ⟨c,rfl⟩,_⟩<;>rfl
theorem dF.K4 {m:Mem}{v:o8}{xs:List Int}(h:dF m v xs):Go.AM.K4 v=true:=by
 rcases h with⟨rfl,rfl⟩ | ⟨id,⟨c,rfl⟩ | ⟨c,rfl⟩,_⟩<;>rfl
theorem dF.len {m:Mem}{v:o8}{xs:List Int}(h:dF m v xs):vSl v (some (o8.int .i64 0)) (fun _ _ n _=>some (.int .i64 n)) (fun _ _ n _=>some (.int .i64 n))=some (.int .i64 xs.length):=by
 rcases h with⟨rfl,rfl⟩ | ⟨id,⟨c,rfl⟩ | ⟨c,rfl⟩,_⟩<;>rfl
theorem dF.lenOf {m:Mem}{v:o8}{xs:List Int}(h:dF m v xs):Go.AM.lenOf v=some xs.length:=by
 rcases h with⟨rfl,rfl⟩ | ⟨id,⟨c,rfl⟩ | ⟨c,rfl⟩,_⟩<;>rfl
def ints (xs:List Int):List o8:=xs.map (o8.int .i64)
theorem vL {n:Nat}{rows:T (List o8)}{xs:List Int}(h:∀i (h:i<xs.length),rows.get i=some [.int .i64 xs[i]])(hn:xs.length≤n):
  ∀(j i:Nat),i+j=xs.length→O1 1 n rows j i=some (ints (xs.drop i)):=by
 intro j
 induction j with
 | zero=>intro i hi;rw [List.drop_of_length_le (by omega)];rfl
 | succ j ih=>
  intro i hi
  have hl:i<xs.length:=by omega
  show ob (cell1 1 n rows i) (fun v=>ob (O1 1 n rows j (i+1)) fun l=>some (v::l))=_
  have e:cell1 1 n rows i=some (.int .i64 xs[i]):=by
   have:=aS (rs:=1) (n:=n) (rows:=rows) (i:=i) (j:=0) (by omega) (by omega) (h i hl)
   rwa [Nat.mul_one] at this
  rw [e,ih (i+1) (by omega),List.drop_eq_getElem_cons hl];rfl
theorem dF.read {m:Mem}{v:o8}{xs:List Int}(h:dF m v xs):U2 m 1 xs.length v=some (ints xs):=by
 rcases h with⟨rfl,rfl⟩ | ⟨id,h1,h2,h3⟩
 ·rfl
 ·rcases h3 with rfl | ⟨n,rows,h4,h5,h6⟩
  ·rcases h1 with⟨c,rfl⟩ | ⟨c,rfl⟩<;>rfl
  ·have key:U6 m id 0 (Nat.mul xs.length 1)=some (ints xs):=by
    have e:Nat.mul xs.length 1=xs.length:=Nat.mul_one _
    rw [e]
    cases hx:xs.length with
    | zero=>rw [List.length_eq_zero_iff.1 hx];rfl
    | succ k=>
     show X0 (m.get id) (fun rs k' rows=>O1 rs k' rows (k+1) 0)=_
     rw [h4,bC,vL h6 h5 (k+1) 0 (by omega)];rfl
   rcases h1 with⟨c,rfl⟩ | ⟨c,rfl⟩<;>exact key
theorem qY:∀(xs:List Int),rowsOf 1 xs.length (ints xs)=some (xs.map fun x=>[o8.int .i64 x])
 | []=>rfl
 | x::xs=>by
  show ob (takeN 1 (ints (x::xs))) (fun r=>ob (rowsOf 1 xs.length (jk 1 (ints (x::xs)))) fun rest=>some (r::rest))=_
  have e:jk 1 (ints (x::xs))=ints xs:=rfl
  rw [e,qY xs];rfl
theorem Du {m:Mem}(hm:T.Ok m.t m.next)(xs:List Int):∃m',grown m 1 xs.length (ints xs)=some [⟨.sliceU m.next 0 xs.length 1,m'⟩]∧Ext m m'∧dF m' (.sliceU m.next 0 xs.length 1) xs:=by
 refine⟨m.new (.cells 1 xs.length (T.ofList (xs.map fun x=>[o8.int .i64 x]))),?_,(Ext.refl hm).new _,.inr ⟨m.next,.inr ⟨1,rfl⟩,by simp,.inr ⟨xs.length,_,by rw [Mem.Y5 hm,if_pos rfl],Nat.le_refl _,fun i hi=>by rw [T.bT];simp [hi]⟩⟩⟩
 show ob (rowsOf 1 xs.length (ints xs)) _=_
 rw [qY];rfl
end Go.AM
namespace Go.AM
open Go
namespace T
variable {α:Type}
theorem NR {t:T α}{n:Nat}(h:Ok t n):∀i (x y:α),i≤n→(t.put i x).put i y=t.put i y:=by
 induction h with
 | e=>intro i x y hi;obtain rfl:i=0:=by omega
      rfl
 | @nd l r z n hl hr ihl ihr=>
  intro i x y hi
  cases i with
  | zero=>rfl
  | succ i=>
   rw [T9,T9]
   split
   ·rename_i h0;rw [T9,if_pos h0,ihl _ _ _ (by omega)]
   ·rename_i h0;rw [T9,if_neg h0,ihr _ _ _ (by omega)]
theorem put_comm {t:T α}{n:Nat}(h:Ok t n):∀i (x y:α),i<n→(t.put n x).put i y=(t.put i y).put n x:=by
 induction h with
 | e=>intro i x y hi;omega
 | @nd l r z n hl hr ihl ihr=>
  intro i x y hi
  cases i with
  | zero=>
   rw [T9,BD,T9]
   split<;>rfl
  | succ i=>
   rw [T9 (i:=n),T9 (i:=i)]
   by_cases hn:n%2=0
   ·rw [if_pos hn,T9]
    by_cases h0:i%2=0
    ·rw [if_pos h0,if_pos h0,T9,if_pos hn]
     have e:(n+1) / 2=n / 2:=by omega
     rw [e] at hl ihl
     have:=ihl (i / 2) x y (by omega)
     rw [this]
    ·rw [if_neg h0,if_neg h0,T9,if_pos hn]
   ·rw [if_neg hn,T9]
    by_cases h0:i%2=0
    ·rw [if_pos h0,if_pos h0,T9,if_neg hn]
    ·rw [if_neg h0,if_neg h0,T9,if_neg hn]
     have:=ihr (i / 2) x y (by omega)
     rw [this]
end T
theorem qZ {α:Type}{p:List α→Prop}(h0:p [])(hs:∀l b,p l→p (l ++ [b])):∀l,p l:=by
 intro l
 have:p l.reverse.reverse:=by
  generalize l.reverse=r
  induction r with
  | nil=>exact h0
  | cons x r ih=>rw [List.reverse_cons];exact hs _ _ ih
 rwa [List.reverse_reverse] at this
noncomputable def ext (m:Mem)(l:List Blk):Mem:=l.foldl Mem.new m
theorem D5 (m:Mem)(b:Blk):m.new b=ext m [b]:=rfl
theorem D7 (m:Mem)(l l':List Blk):ext (ext m l) l'=ext m (l++l'):=by simp [ext]
theorem ext_nil (m:Mem):ext m []=m:=rfl
theorem bH (m:Mem)(l:List Blk)(b:Blk):ext m (l ++ [b])=(ext m l).new b:=by simp [ext]
@[simp] theorem Ca (m:Mem)(l:List Blk):(ext m l).next=m.next+l.length:=by
 induction l using qZ with
 | h0=>rfl
 | hs l b ih=>rw [bH,Mem.BF,ih];simp;omega
@[simp] theorem gu (m:Mem)(l:List Blk):(ext m l).lim=m.lim:=by
 induction l using qZ with
 | h0=>rfl
 | hs l b ih=>rw [bH,Mem.MS,ih]
theorem K5 {m:Mem}(hm:m.Ok)(l:List Blk):(ext m l).Ok:=by
 induction l using qZ with
 | h0=>exact hm
 | hs l b ih=>rw [bH];exact ih.new b
theorem ext_get {m:Mem}(hm:m.Ok)(l:List Blk)(i:Nat):(ext m l).get i=if i<m.next then m.get i else l[i-m.next]?:=by
 induction l using qZ with
 | h0=>
  rw [ext_nil]
  split
  ·rfl
  ·cases h:m.get i with
   | none=>simp
   | some b=>have:=Mem.L9 hm h;omega
 | hs l b ih=>
  rw [bH,Mem.Y5 (K5 hm l),ih,Ca]
  by_cases h1:i<m.next
  ·rw [if_neg (by omega),if_pos h1,if_pos h1]
  ·rw [if_neg h1,if_neg h1]
   by_cases h2:i=m.next+l.length
   ·rw [if_pos h2,List.getElem?_append_right (by omega),show i-m.next-l.length=0 from by omega];rfl
   ·rw [if_neg h2]
    by_cases h3:i-m.next<l.length
    ·rw [List.getElem?_append_left h3]
    ·rw [List.getElem?_eq_none (by omega),List.getElem?_eq_none (by simp;omega)]
theorem j6 {m:Mem}(hm:m.Ok)(l:List Blk)(c:Nat):(ext m l).get (m.next+c)=l[c]?:=by
 rw [ext_get hm,if_neg (by omega),show m.next+c-m.next=c from by omega]
theorem j5 {m:Mem}(hm:m.Ok)(l:List Blk):(ext m l).get m.next=l[0]?:=j6 hm l 0
theorem H7 {m:Mem}(hm:m.Ok)(l:List Blk){i:Nat}(h:i<m.next):(ext m l).get i=m.get i:=by rw [ext_get hm,if_pos h]
theorem G7 {m:Mem}(hm:m.Ok)(l:List Blk):Ext m (ext m l):=⟨K5 hm l,by simp,by simp,fun i hi=>H7 hm l hi⟩
theorem Mem.NS {m:Mem}(hm:m.Ok)(a b:Blk):(m.new a).set m.next b=m.new b:=by
 show (⟨(m.t.put m.next a).put m.next b,_,_⟩:Mem)=_
 rw [T.NR hm _ _ _ (Nat.le_refl _)];rfl
theorem Mem.AU {m:Mem}(hm:m.Ok)(a b:Blk){i:Nat}(h:i<m.next):(m.new a).set i b=(m.set i b).new a:=by
 show (⟨(m.t.put m.next a).put i b,_,_⟩:Mem)=⟨(m.t.put i b).put m.next a,_,_⟩
 rw [T.put_comm hm _ _ _ h];rfl
theorem l9 {m:Mem}(hm:m.Ok)(l:List Blk)(c:Nat)(b:Blk)(h:c<l.length):(ext m l).set (m.next+c) b=ext m (l.set c b):=by
 induction l using qZ with
 | h0=>simp at h
 | hs l a ih=>
  rw [bH]
  by_cases h1:c<l.length
  ·rw [Mem.AU (K5 hm l) _ _ (by rw [Ca];omega),ih h1,List.set_append_left _ _ h1,bH]
  ·have:c=l.length:=by simp at h;omega
   subst this
   have e:m.next+l.length=(ext m l).next:=by simp
   rw [e,Mem.NS (K5 hm l),List.set_append_right _ _ (Nat.le_refl _)]
   simp [bH]
theorem l5 {m:Mem}(hm:m.Ok)(l:List Blk)(b:Blk)(h:0<l.length):(ext m l).set m.next b=ext m (l.set 0 b):=l9 hm l 0 b h
end Go.AM
namespace Go.AM
open Go
theorem Y2 {α:Type}(a b:Nat)(x y:α):bi (Nat.beq a b) x y=if a=b then x else y:=oG a b x y
theorem xX {α:Type}(a b:Nat)(x y:α):bi (Nat.ble a b) x y=if a≤b then x else y:=by
 cases h:Nat.ble a b with
 | true=>rw [if_pos (Nat.le_of_ble_eq_true h)];rfl
 | false=>rw [if_neg (fun hh=>by rw [Nat.ble_eq_true_of_le hh] at h;cases h)];rfl
theorem FT {α:Type}(a b:Nat)(x y:α):bi (Nat.blt a b) x y=if a<b then x else y:=xX (a+1) b x y
theorem G5 (ls:List o8)(env:T o8)(p:Nat×Nat×OF)(l:List (Nat×Nat×OF))(cs:List o8):lay (p::l) ls env cs =
  if (p.2.2 ls env).cells.length=p.2.1 then if p.1+p.2.1≤cs.length then lay l ls env (cs.take p.1++((p.2.2 ls env).cells++cs.drop (p.1+(p.2.2 ls env).cells.length))) else none else none:=by
 rw [JV,Y2,P8,P8]
 split
 ·rename_i h
  show bi (Nat.ble (p.1+p.2.1) cs.length) _ _=_
  rw [xX]
  split
  ·rename_i h2
   rw [gK _ _ _ (by omega)]
  ·rfl
 ·rfl
theorem r9 (sz:Nat)(a x:OF)(cf:L8)(ls:List o8)(env:T o8)(m:Mem):K3 sz a x cf ls env m=nD (a ls env) fun id off=>
  if (x ls env).cells.length=sz then storeAt m id off (x ls env).cells fun m'=>some [⟨.undef,m'⟩] else none:=by
 rw [FP];simp only [Y2]
theorem G6 {β:Type}{m:Mem}(hm:m.Ok)(hl:m.lim≤m.next)(l:List Blk)(c off:Nat)(vs:List o8)(k:Mem→Option β):
  storeAt (ext m l) (m.next+c) off vs k=bi (Q6 vs) (ob (stB l[c]? off vs) fun b=>k (ext m (l.set c b))) none:=by
 cases h1:Q6 vs with
 | false=>
  unfold storeAt
  rw [h1]
  cases Nat.blt (m.next+c) (ext m l).lim<;>rfl
 | true=>
  rw [X7 (by rw [gu];omega) h1,j6 hm,ay]
  by_cases hc:c<l.length
  ·congr 1
   funext b
   rw [l9 hm _ _ _ hc]
  ·rw [List.getElem?_eq_none (by omega)];rfl
theorem x9 {β:Type}{m:Mem}(hm:m.Ok)(hl:m.lim≤m.next)(l:List Blk)(off:Nat)(vs:List o8)(k:Mem→Option β):
  storeAt (ext m l) m.next off vs k=bi (Q6 vs) (ob (stB l[0]? off vs) fun b=>k (ext m (l.set 0 b))) none:=G6 hm hl l 0 off vs k
@[simp] theorem Lh (j:Nat)(k:Nat)(rs:List uI)(env:T o8)(m:Mem):results (.cell j (some k)::rs) env m=ob (ob (env.get j) fun p=>nD p fun id off=>ldN (m.get id) off k) fun v=>ob (results rs env m) fun l=>some (v::l):=id rfl
@[simp] theorem JX (j:Nat)(rs:List uI)(env:T o8)(m:Mem):results (.cell j none::rs) env m=ob (ob (env.get j) fun p=>nD p fun id off=>ld1 (m.get id) off) fun v=>ob (results rs env m) fun l=>some (v::l):=id rfl
end Go.AM
namespace Go.AM
open Go
section
variable {α β:Type}
@[congr] theorem aev {b b':Bool}{x x' y y':α}(hb:b=b')(h1:b'=true→x=x')(h2:b'=false→y=y'):bi b x y=bi b' x' y':=by
 subst hb
 cases b with
 | true=>exact h1 rfl
 | false=>exact h2 rfl
@[simp] theorem afs (b:Bool)(x:α):bi b x x=x:=by cases b<;>rfl
@[simp] theorem aur (b:Bool)(x y:α):bi (!b) x y=bi b y x:=by cases b<;>rfl
theorem w9 (b:Bool)(x y:α)(k:α→Option β):ob (bi b (some x) (some y)) k=k (bi b x y):=by cases b<;>rfl
theorem p8 (b:Bool)(x y:α)(k:α→Option (List β)):bnd (bi b (some [x]) (some [y])) k=k (bi b x y):=by cases b<;>rfl
theorem l8 (b:Bool)(x y:α)(k:α→Option β):MN (bi b (some [x]) (some [y])) k=k (bi b x y):=by cases b<;>rfl
end
@[simp] theorem NT (b c:Bool):bi b (o8.bool c) (o8.bool false)=.bool (b&&c):=by cases b<;>rfl
@[simp] theorem Uv (b c:Bool):bi b (o8.bool true) (o8.bool c)=.bool (b||c):=by cases b<;>rfl
theorem NU (b:Bool)(v w:o8)(m:Mem):bi b (⟨v,m⟩:VM) ⟨w,m⟩=⟨bi b v w,m⟩:=by cases b<;>rfl
@[simp] theorem aft {β:Type}(b:Bool)(v w:o8)(p:o8→β)(q:β):gW (bi b v w) p q=bi b (gW v p q) (gW w p q):=by cases b<;>rfl
end Go.AM
namespace Go.AM
open Go
section
variable {α:Type}(a b c:Bool)(x y z:α)
@[simp] theorem afu:bi b (bi b x y) z=bi b x z:=by cases b<;>rfl
@[simp] theorem aew:bi b x (bi b y z)=bi b x z:=by cases b<;>rfl
@[simp] theorem afv:bi (b&&c) (bi b x y) z=bi (b&&c) x z:=by cases b<;>cases c<;>rfl
@[simp] theorem afw:bi (b&&c) (bi c x y) z=bi (b&&c) x z:=by cases b<;>cases c<;>rfl
@[simp] theorem aus:bi (b||c) x (bi b y z)=bi (b||c) x z:=by cases b<;>cases c<;>rfl
@[simp] theorem aut:bi (b||c) x (bi c y z)=bi (b||c) x z:=by cases b<;>cases c<;>rfl
end
end Go.AM
namespace Go.AM
open Go
@[simp] theorem awt (b:Bool)(f f':T o8)(m m':Mem)(p p':Option o8)(k k':List Mk):bi b (⟨f,m,p,k⟩:EM) ⟨f',m',p',k'⟩=⟨bi b f f',bi b m m',bi b p p',bi b k k'⟩:=by cases b<;>rfl
@[simp] theorem awu (b:Bool)(l l' r r':T o8)(x x':o8):bi b (T.nd l x r) (T.nd l' x' r')=.nd (bi b l l') (bi b x x') (bi b r r'):=by cases b<;>rfl
@[simp] theorem auu (b:Bool)(v w:o8)(m m':Mem):bi b (⟨v,m⟩:VM) ⟨w,m'⟩=⟨bi b v w,bi b m m'⟩:=by cases b<;>rfl
end Go.AM
namespace Go.AM
open Go
@[simp] theorem VI (w:Bool):isB w .undef=false:=id rfl
theorem gV {i:Nat}(h0:0<i)(h:i<4611686018427387904):w64 ((i:Int)-1)=((i-1:Nat):Int):=by rw [aR (by omega) (by omega)];omega
def P9 (p:Nat→Bool):Nat→Nat→Bool
 | 0,_=>true
 | j+1,i=>p i&&P9 p j (i+1)
def okB (xs:List Int)(i:Nat):Bool:=(decide (1≤xs.getD i 0)&&decide (xs.getD i 0≤1099511627776))&&(decide (i=0)||decide (xs.getD (i-1) 0<xs.getD i 0))
theorem eP {xs:List Int}{i:Nat}(h:i<xs.length):xs.getD i 0=xs[i]:=by simp [List.getD,h]
end Go.AM
namespace Go.AM
open Go
@[simp] theorem VJ (ks:List PK)(a b:List o8):R4 ks (.agg a) (.agg b)=aN ks a b:=id rfl
@[simp] theorem VK:aN [] [] []=some true:=id rfl
@[simp] theorem VL (k:PK)(ks:List PK)(x y:o8)(a b:List o8):aN (k::ks) (x::a) (y::b)=ob (KI k x y) fun r=>bi r (aN ks a b) (some false):=id rfl
@[simp] theorem auv:KI .i=X9:=id rfl
@[simp] theorem aex (k:IntKind)(a b:Int):X9 (.int k a) (.int k b)=some (decide (a=b)):=by
 show bi (kEq k k) (some (rR a b)) none=_
 rw [vJ,iK,show (a==b)=decide (a=b) from rfl];rfl
@[simp] theorem NV (b c:Bool):bi b (some c) (some false)=some (b&&c):=by cases b<;>rfl
theorem K6 (n:Nat)(k:IntKind)(i:Int):cK (n+1) (.int k i) (.int k i)=true:=by
 show bi (kEq k k) (rR i i) false=true
 rw [vJ,iK];simp
theorem iY {m:Mem}{v:o8}{xs:List Int}(h:dF m v xs)(n:Nat):cK (n+1) v v=true:=by
 rcases h with⟨rfl,rfl⟩ | ⟨id,⟨c,rfl⟩ | ⟨c,rfl⟩,_⟩
 ·rfl
 ·show bi (Nat.beq id id) (bi (Nat.beq 0 0) (bi (Nat.beq _ _) (Nat.beq _ _) false) false) false=true
  simp [Y2]
 ·show bi (Nat.beq id id) (bi (Nat.beq 0 0) (bi (Nat.beq _ _) (Nat.beq _ _) false) false) false=true
  simp [Y2]
theorem xY (f:o8→o8→Bool)(x y:o8)(a b:List o8):zN f (x::a) (y::b)=bi (f x y) (zN f a b) false:=rfl
theorem Cb (f:o8→o8→Bool):zN f [] []=true:=rfl
theorem xZ (n:Nat)(a b:List o8):cK (n+1) (.agg a) (.agg b)=zN (cK n) a b:=rfl
end Go.AM
namespace Go.AM
open Go
section
variable {α β:Type}
@[congr] theorem awv {o o':Option α}{k:α→Option β}(h:o=o'):ob o k=ob o' k:=by rw [h]
@[congr] theorem auw {o o':Option (List α)}{k:α→Option (List β)}(h:o=o'):bnd o k=bnd o' k:=by rw [h]
@[congr] theorem afx {o o':Option (List α)}{k:α→Option β}(h:o=o'):MN o k=MN o' k:=by rw [h]
@[congr] theorem afy {v v':o8}{p:o8→β}{q:β}(h:v=v'):gW v p q=gW v' p q:=by rw [h]
@[congr] theorem afz {v v':o8}{k:Nat→Nat→Option β}(h:v=v'):nD v k=nD v' k:=by rw [h]
@[congr] theorem afA {v v':o8}{k:IntKind→Int→Option β}(h:v=v'):wh v k=wh v' k:=by rw [h]
@[congr] theorem aey {v v':o8}{k:Bool→Option β}(h:v=v'):lT v k=lT v' k:=by rw [h]
@[congr] theorem afB {v v':o8}{k:List o8→Option β}(h:v=v'):wm v k=wm v' k:=by rw [h]
@[congr] theorem afC {v v':o8}{k:List o8→Option β}(h:v=v'):KG v k=KG v' k:=by rw [h]
@[congr] theorem afD {v v':o8}{k:List UInt8→Option β}(h:v=v'):Br v k=Br v' k:=by rw [h]
@[congr] theorem afE {v v':o8}{k:Nat→Option β}(h:v=v'):kT v k=kT v' k:=by rw [h]
end
end Go.AM
namespace Go.AM
open Go
section
variable {α β:Type}
@[simp high] theorem VN (a:α)(k:α→Option β):ob (some a) k=k a:=id rfl
@[simp high] theorem VO (k:α→Option β):ob none k=none:=id rfl
@[simp high] theorem VP (x y:α):bi true x y=x:=id rfl
@[simp high] theorem Uw (x y:α):bi false x y=y:=id rfl
@[simp high] theorem afF (i:Nat):(T.e:T α).get i=none:=id rfl
@[simp high] theorem Ux (l:T α)(x:α)(r:T α):(T.nd l x r).get 0=some x:=id rfl
@[simp high] theorem afG (i:Nat)(x:α):(T.e:T α).put i x=.nd .e x .e:=id rfl
@[simp high] theorem Uy (l:T α)(y:α)(r:T α)(x:α):(T.nd l y r).put 0 x=.nd l x r:=id rfl
@[simp high] theorem Uz (x:α)(n:Nat)(t:T α)(i:Nat):T.rep x (n+1) t i=T.rep x n (t.put i x) (i+1):=id rfl
@[simp high] theorem IW (m:Mem):reserve 0 m=m:=id rfl
@[simp high] theorem IX (n:Nat)(m:Mem):reserve (n+1) m=reserve n (m.new .void):=id rfl
@[simp high] theorem UA (m:Mem)(b:Blk):(m.new b).next=m.next+1:=id rfl
@[simp high] theorem VQ (m:Mem)(b:Blk):(m.new b).lim=m.lim:=id rfl
@[simp high] theorem UC (m:Mem)(i:Nat)(b:Blk):(m.set i b).next=m.next:=id rfl
@[simp high] theorem VR (m:Mem)(i:Nat)(b:Blk):(m.set i b).lim=m.lim:=id rfl
end
end Go.AM
namespace Go.AM
open Go
@[simp] theorem NW:cK 100 .undef .undef=true:=id rfl
end Go.AM
namespace Go.AM
open Go
theorem Cc (k:IntKind)(a b:Nat)(h:b≠0):zQ k (a:Int) (b:Int)=some (.int k ((a%b:Nat):Int)):=by
 cases b with
 | zero=>exact absurd rfl h
 | succ b=>rfl
end Go.AM
namespace Go.AM
open Go
theorem AV {β:Type}{es:Nat}{cells:List o8}(h:cells.length=es)(k:Blk→Option β):dL es 1 cells k=k (D9 cells):=by
 show ob (ob (takeN es cells) fun r=>ob (rowsOf es 0 (jk es cells)) fun rest=>some (r::rest)) (fun rows=>k (.cells es 1 (T.ofList rows)))=_
 rw [fD _ _ (by omega),O3,eZ,List.drop_of_length_le (by omega),List.take_of_length_le (by omega)]
 show k (.cells es 1 (.nd .e cells .e))=k (.cells (len' cells) 1 (.nd .e cells .e))
 rw [P8,h]
theorem Y6 (es:Nat)(zero:List o8)(ps:List (Nat×Nat×OF))(ls:List o8)(env:T o8)(nid:Nat)(hz:zero.length=es):I6 es 1 zero ps ls env nid=ob (lay ps ls env zero) fun cells=>if cells.length=es then some (.slice nid 0 1 1,some (D9 cells)) else none:=by
 show ob (lay ps ls env (gJ zero [])) (fun cells=>dL es 1 cells fun b=>some (o8.slice nid 0 1 1,some b))=_
 rw [U9,List.append_nil]
 congr 1
 funext cells
 split
 ·rename_i h;rw [AV h]
 ·rename_i h
  show ob (ob (takeN es cells) fun r=>ob (rowsOf es 0 (jk es cells)) fun rest=>some (r::rest)) _=none
  cases ht:takeN es cells with
  | none=>rfl
  | some r=>
   obtain⟨h1,h2⟩:=fC _ _ _ ht
   rw [O3,eZ]
   cases hd:cells.drop es with
   | nil=>
    have:=List.drop_eq_nil_iff.1 hd
    omega
   | cons x xs=>rfl
@[simp] theorem aez {β:Type}(len:Nat)(k:Nat→Option β):idx len (.int .i64 0) k=if 0<len then k 0 else none:=by
 show bi (Nat.blt 0 len) (k 0) none=_
 rw [FT]
noncomputable def msB (b:Option Blk)(f:EqF)(n:Nat)(k x:o8):Option Blk:=
 vEs b fun es=>ob (R8 f n k es) fun r=>Option.rec (some (.map (es ++ [(k,x)]))) (fun p=>ob es[p.1]? fun e=>bi (Nat.beq e.1.cells.length n) (some (.map (dZ es k x p.1))) none) r
theorem kQ (f:EqF)(n:Nat)(mp k x:OF)(cf:L8)(ls:List o8)(env:T o8)(m:Mem):bn f n mp k x cf ls env m=wo (mp ls env) none fun id=>bi (Nat.blt id m.lim) none (ob (msB (m.get id) f n (k ls env) (x ls env)) fun b=>some [⟨.undef,m.set id b⟩]):=by
 show wo (mp ls env) none (fun id=>bi (Nat.blt id m.lim) none _)=_
 congr 1
 funext id
 congr 1
 unfold msB
 match m.get id with
 | some (.map es)=>
  show ob (R8 f n (k ls env) es) _=ob (ob (R8 f n (k ls env) es) _) _
  cases R8 f n (k ls env) es with
  | none=>rfl
  | some r=>
   cases r with
   | none=>simp [U9];rfl
   | some p=>
    simp only [O3]
    show ob (vX p.1 es) _=ob (ob es[p.1]? _) _
    rw [fM]
    cases es[p.1]? with
    | none=>rfl
    | some e=>
     simp only [O3,P8]
     cases Nat.beq e.1.cells.length n<;>rfl
 | some .void | some .dead | some (.cells ..) | some (.iter ..) | some (.tail _) | some (.loop ..) | some .deferred | none=>rfl
@[congr] theorem afH {β:Type}{v v':o8}{z:Option β}{k:Nat→Option β}(h:v=v'):wo v z k=wo v' z k:=by rw [h]
theorem FU {m:Mem}(hl:m.lim≤m.next)(l:List Blk)(c:Nat):Nat.blt (m.next+c) (ext m l).lim=false:=by
 rw [gu]
 cases h:Nat.blt (m.next+c) m.lim with
 | false=>rfl
 | true=>have:=Nat.blt_eq.mp h;omega
theorem ze {m:Mem}(hl:m.lim≤m.next)(l:List Blk):Nat.blt m.next (ext m l).lim=false:=FU hl l 0
theorem vM (es:List (o8×o8))(f:EqF)(n:Nat)(k x:o8):msB (some (.map es)) f n k x=ob (R8 f n k es) fun r=>Option.rec (some (.map (es ++ [(k,x)]))) (fun p=>ob es[p.1]? fun e=>bi (Nat.beq e.1.cells.length n) (some (.map (dZ es k x p.1))) none) r:=rfl
theorem oW (f:EqF)(n:Nat)(k:o8):R8 f n k []=bi (Nat.beq (len' k.cells) n) (ob (f k k) fun _=>some none) none:=rfl
theorem V6 (f:EqF)(n:Nat)(k:o8)(e:o8×o8)(es:List (o8×o8)):R8 f n k (e::es)=bi (Nat.beq (len' k.cells) n) (findKey f k (e::es) 0) none:=rfl
@[simp] theorem UD (f:OF)(params:List (Option Nat))(assign body:aV)(cf:L8)(fu:Nat)(env:T o8)(m:Mem)(k:List Mk):jA f params assign body cf fu none env m k=MP cf (f [] env) params assign body env (m.new .deferred) (.c m.next::k):=id rfl
@[simp] theorem VT (cf:L8)(f:FuncId)(a b:List o8)(params:List (Option Nat))(assign body:aV)(env:T o8)(m:Mem)(k:List Mk):MP cf (.func (.func f) a b) params assign body env m k =
  bnd (cf (.func f) (a++(.func (.yield m.next) [] []::b)) (m.new (.loop .ready none env params assign body))) fun r=>gW r.v (fun _=>none) <|
   lZ (r.m.get m.next) fun st pend _ _ _ _=>match st with
    | .busy=>none
    | _=>match pend with
     | none=>rT .normal env (r.m.set m.next .dead) k
     | some x=>rT x env (r.m.set m.next .dead) k:=by
 show bnd (cf (.func f) (gJ a (gJ [.func (.yield m.next) [] []] b)) _) _=_
 rw [U9,U9];rfl
@[simp] theorem aeA {β:Type}(st:LoopState)(pend:Option X5)(env:T o8)(ps:List (Option Nat))(as bd:aV)(f:LoopState→Option X5→T o8→List (Option Nat)→aV→aV→Option β):lZ (some (.loop st pend env ps as bd)) f=f st pend env ps as bd:=id rfl
theorem NY (dcf:jg)(rs:List uI)(env:T o8)(m:Mem)(id:Nat)(h:m.get id=some .deferred):leave dcf rs ⟨.ret,env,m,[.c id],none⟩=ob (results rs env (m.set id .dead)) fun l=>some [⟨result l,m.set id .dead⟩]:=by
 show UL (m.get id) _=_
 rw [h];rfl
end Go.AM
namespace Go.AM
open Go
theorem uj {β:Type}{m:Mem}{id:Nat}(hl:m.lim≤id)(off:Nat)(vs:List o8)(k:Mem→Option β):storeAt m id off vs k=bi (Q6 vs) (ob (stB (m.get id) off vs) fun b=>k (m.set id b)) none:=by
 cases h1:Q6 vs with
 | true=>rw [X7 hl h1];rfl
 | false=>
  unfold storeAt
  rw [h1]
  cases Nat.blt id m.lim<;>rfl
end Go.AM
namespace Go.AM
open Go
def Ce (P:Program):List Field→Nat→Nat→Bool
 | [],o,n=>Nat.beq o n
 | f::fs,o,n=>Nat.beq f.offset o&&Ce P fs (o+P.cellsOf f.type) n
def zf (P:Program):Nat→TypeId→Bool
 | 0,_=>false
 | n+1,t=>match P.underlying t with
  | some .bool=>true
  | some (.int _)=>true
  | some .string=>true
  | some (.slice e)=>zf P n e&&Nat.blt 0 (P.cellsOf e)
  | some (.struct fs)=>fs.toList.all (fun f=>zf P n f.type)&&Ce P fs.toList 0 (P.cellsOf t)
  | _=>false
def Dv (S:TypeId→List o8→Prop):List Field→List o8→Prop
 | [],vs=>vs=[]
 | f::fs,vs=>∃a b,vs=a++b∧S f.type a∧Dv S fs b
def shp (P:Program)(m:Mem):Nat→TypeId→List o8→Prop
 | 0,_,_=>False
 | n+1,t,vs=>match P.underlying t with
  | some .bool=>∃b,vs=[.bool b]
  | some (.int k)=>∃i,vs=[.int k i]∧(Lit.int k i).wf=true
  | some .string=>∃s:List UInt8,vs=[.str s]∧s.length≤maxLen
  | some (.slice e)=>vs=[.nilSlice]∨∃id len cap,vs=[.slice id 0 len cap]∧len≤cap∧cap≤maxLen∧
    ((cap=0∧m.get id=some .dead)∨∃rows,0<cap∧m.get id=some (.cells (P.cellsOf e) cap rows)∧∀i,i<cap→∃row,rows.get i=some row∧row.length=P.cellsOf e∧shp P m n e row)
  | some (.struct fs)=>Dv (shp P m n) fs.toList vs
  | _=>False
theorem um {S S':TypeId→List o8→Prop}(h:∀t vs,S t vs→S' t vs):∀fs vs,Dv S fs vs→Dv S' fs vs
 | [],_,hv=>hv
 | _::fs,_,⟨a,b,e,h1,h2⟩=>⟨a,b,e,h _ _ h1,um h fs b h2⟩
theorem pY {P:Program}{m m':Mem}(h:∀i b,m.get i=some b→m'.get i=some b):∀n t vs,shp P m n t vs→shp P m' n t vs:=by
 intro n
 induction n with
 | zero=>intro t vs hv;exact hv
 | succ n ih=>
  intro t vs hv
  unfold shp at hv ⊢
  split at hv
  ·exact hv
  ·exact hv
  ·exact hv
  ·rcases hv with hv | ⟨id,len,cap,h1,h2,h3,h4⟩
   ·exact .inl hv
   ·refine .inr ⟨id,len,cap,h1,h2,h3,?_⟩
    rcases h4 with⟨h4,h5⟩ | ⟨rows,h4,h5,h6⟩
    ·exact .inl ⟨h4,h _ _ h5⟩
    ·exact .inr ⟨rows,h4,h _ _ h5,fun i hi=>by
      obtain⟨row,g1,g2,g3⟩:=h6 i hi
      exact⟨row,g1,g2,ih _ _ g3⟩⟩
  ·exact um (fun t vs=>ih t vs) _ _ hv
  ·exact hv
section
variable {P:Program}{G:Mem}{hp:Array Obj}
theorem Mem.ng (m:Mem)(i:Nat):m.shut.get i=m.get i:=rfl
theorem RM.push {ι:Inj}{m:Mem}(h:RM P G ι m hp)(hl:m.lim=m.next){b:Blk}{l:Loc}(hv:gI b=false)(hs:Y4 b=true→l.spot=none)
  (hb:dM P (ι.upd m.next l) ((m.new b).nm (ι.upd m.next l)) hp l b):RM P G (ι.upd m.next l) (m.new b).shut hp:=by
 have hget:∀i,(m.new b).shut.get i=if i=m.next then some b else m.get i:=fun i=>Mem.Y5 h.ok b i
 have hne:∀i x,m.get i=some x→i≠m.next:=fun i x hx e=>by have:=Mem.L9 h.ok hx;omega
 have hext:∀j,m.has j→ι.upd m.next l j=ι j:=fun j ⟨x,hx,_⟩=>ι.upd_ne l (hne j x hx)
 have hhas:∀i,m.has i→(m.new b).shut.has i:=fun i ⟨x,hx,hv⟩=>⟨x,by rw [hget,if_neg (hne i x hx)];exact hx,hv⟩
 have hG:G.next≤m.next:=Nat.le_trans h.glim h.limn
 refine⟨h.ok.push b,fun i x hx=>?_,fun i x hi hx _=>?_,?_,Nat.le_refl _,h.gle,fun i hi=>?_,fun i hi=>hhas i (h.ghas i hi),fun i hi=>?_,fun i x hx hlx=>?_⟩
 ·rw [hget] at hx
  split at hx
  ·rename_i e;subst e;cases hx;rw [ι.U0];exact hb
  ·rename_i e
   rw [ι.upd_ne l e]
   exact (h.blk i x hx).mono (n:=m.nm ι) hext (Mem.aA hhas hext) fun _=>rfl
 ·have h1:=Mem.L9 (m:=(m.new b).shut) (h.ok.push b) hx
  have hi:(m.new b).shut.next≤i:=hi
  omega
 ·show G.next≤m.next+1;omega
 ·rw [hget,if_neg (by omega)];exact h.base i hi
 ·rw [hext i (h.ghas i hi)];exact h.glob i hi
 ·rw [hget] at hx
  split at hx
  ·rename_i e;subst e;cases hx;rw [ι.U0];exact hs hlx
  ·rename_i e;rw [ι.upd_ne l e];exact h.spot i x hx hlx
structure Lifts (P:Program)(G:Mem)(hp:Array Obj)(ι:Inj)(m:Mem)(ι':Inj)(m':Mem):Prop where
 rm:RM P G ι' m' hp
 lim:m'.lim=m'.next
 get:∀i b,m.get i=some b→m'.get i=some b
 ext:∀i,m.has i→ι' i=ι i
theorem Lifts.refl {ι:Inj}{m:Mem}(h:RM P G ι m hp)(hl:m.lim=m.next):Lifts P G hp ι m ι m:=⟨h,hl,fun _ _ h=>h,fun _ _=>rfl⟩
theorem Lifts.has {ι ι':Inj}{m m':Mem}(h:Lifts P G hp ι m ι' m')(i:Nat)(hi:m.has i):m'.has i:=by
 obtain⟨x,h1,h2⟩:=hi
 exact⟨x,h.get i x h1,h2⟩
theorem Lifts.trans {ι1 ι2 ι3:Inj}{m1 m2 m3:Mem}(h:Lifts P G hp ι1 m1 ι2 m2)(k:Lifts P G hp ι2 m2 ι3 m3):Lifts P G hp ι1 m1 ι3 m3:=
 ⟨k.rm,k.lim,fun i b hb=>k.get i b (h.get i b hb),fun i hi=>(k.ext i (h.has i hi)).trans (h.ext i hi)⟩
theorem Lifts.I4 {ι ι':Inj}{m m':Mem}(h:Lifts P G hp ι m ι' m'){vs:List o8}(hv:ltL (m.nm ι) vs):I7 ι' vs=I7 ι vs:=aP (n:=m.nm ι) h.ext vs hv
theorem Lifts.lt {ι ι':Inj}{m m':Mem}(h:Lifts P G hp ι m ι' m'){vs:List o8}(hv:ltL (m.nm ι) vs):ltL (m'.nm ι') vs:=aW (Mem.aA h.has h.ext) vs hv
theorem Lifts.push {ι:Inj}{m:Mem}(h:RM P G ι m hp)(hl:m.lim=m.next){b:Blk}{l:Loc}(hv:gI b=false)(hs:Y4 b=true→l.spot=none)
  (hb:dM P (ι.upd m.next l) ((m.new b).nm (ι.upd m.next l)) hp l b):Lifts P G hp ι m (ι.upd m.next l) (m.new b).shut:=by
 have hne:∀i x,m.get i=some x→i≠m.next:=fun i x hx e=>by have:=Mem.L9 h.ok hx;omega
 exact⟨h.push hl hv hs hb,rfl,fun i x hx=>by rw [Mem.ng,Mem.Y5 h.ok,if_neg (hne i x hx)];exact hx,fun j ⟨x,hx,_⟩=>ι.upd_ne l (hne j x hx)⟩
def Gets (P:Program)(G:Mem)(hp:Array Obj)(ι:Inj)(m:Mem)(cs:List Value)(S:Mem→List o8→Prop):Prop:=
 ∃ι' m' vs,Lifts P G hp ι m ι' m'∧I7 ι' vs=cs∧ltL (m'.nm ι') vs∧S m' vs
variable {H:Type}{enc:TypeId×Value→H}{w:World}{held:Bool}
theorem AX {cs:List Value}{S:Mem→TypeId→List o8→Prop}(hS:∀m m' t vs,(∀i b,m.get i=some b→m'.get i=some b)→S m t vs→S m' t vs):
  ∀(fs:List Field) (o:Nat),(∀f∈fs,∀ι m,RM P G ι m hp→m.lim=m.next→Gets P G hp ι m ((cs.drop f.offset).take (P.cellsOf f.type)) (fun m' vs=>S m' f.type vs))→Ce P fs o cs.length=true→
   ∀ι m,RM P G ι m hp→m.lim=m.next→Gets P G hp ι m (cs.drop o) (fun m' vs=>Dv (S m') fs vs):=by
 intro fs
 induction fs with
 | nil=>
  intro o _ ho ι m hm hl
  have:o=cs.length:=Nat.eq_of_beq_eq_true ho
  exact⟨ι,m,[],Lifts.refl hm hl,by rw [this];simp [I7],trivial,rfl⟩
 | cons f fs ih=>
  intro o hf ho ι m hm hl
  simp only [Ce,Bool.and_eq_true] at ho
  have h1:f.offset=o:=Nat.eq_of_beq_eq_true ho.1
  obtain⟨ι1,m1,a,g1,g2,g3,g4⟩:=hf f (by simp) ι m hm hl
  obtain⟨ι2,m2,b,k1,k2,k3,k4⟩:=ih (o+P.cellsOf f.type) (fun f' hf'=>hf f' (by simp [hf'])) ho.2 ι1 m1 g1.rm g1.lim
  refine⟨ι2,m2,a++b,g1.trans k1,?_,dQ (k1.lt g3) k3,a,b,rfl,hS _ _ _ _ k1.get g4,k4⟩
  rw [eF,k1.I4 g3,g2,k2,h1,← List.drop_drop,List.take_append_drop]
theorem FV {n ce:Nat}{row:Nat→List Value}{S:Mem→List o8→Prop}(hS:∀m m' vs,(∀i b,m.get i=some b→m'.get i=some b)→S m vs→S m' vs)
  (h:∀i,i<n→∀ι m,RM P G ι m hp→m.lim=m.next→Gets P G hp ι m (row i) S):∀c,c≤n→∀ι m,RM P G ι m hp→m.lim=m.next→
   ∃(ι':Inj) (m':Mem) (rl:List (List o8)),Lifts P G hp ι m ι' m'∧rl.length=c∧∀i r,rl[i]?=some r→I7 ι' r=row i∧ltL (m'.nm ι') r∧S m' r:=by
 intro c
 induction c with
 | zero=>intro _ ι m hm hl;exact⟨ι,m,[],Lifts.refl hm hl,rfl,fun i r hr=>by simp at hr⟩
 | succ c ih=>
  intro hc ι m hm hl
  obtain⟨ι1,m1,rl,g1,g2,g3⟩:=ih (by omega) ι m hm hl
  obtain⟨ι2,m2,r,k1,k2,k3,k4⟩:=h c (by omega) ι1 m1 g1.rm g1.lim
  refine⟨ι2,m2,rl ++ [r],g1.trans k1,by simp [g2],fun i r' hr=>?_⟩
  by_cases hi:i<rl.length
  ·rw [List.getElem?_append_left hi] at hr
   obtain⟨q1,q2,q3⟩:=g3 i r' hr
   exact⟨by rw [k1.I4 q2,q1],k1.lt q2,hS _ _ _ k1.get q3⟩
  ·rw [List.getElem?_append_right (by omega)] at hr
   have:i-rl.length=0:=by
    have:=(List.getElem?_eq_some_iff.1 hr).1
    simp at this;omega
   rw [this] at hr
   simp at hr
   subst hr
   rw [show i=c from by omega]
   exact⟨k2,k3,k4⟩
theorem lift (k:Nat):∀(n:Nat) (t:TypeId) (cs:List Value) (x:DataW H×List MemPlace),DataW.trod enc P w 0 (fun _=>true) held n t cs=some x→zf P k t=true→
  ∀ι m,RM P G ι m w.heap→m.lim=m.next→Gets P G w.heap ι m cs (fun m' vs=>shp P m' k t vs):=by
 induction k with
 | zero=>intro n t cs x _ h;cases h
 | succ k ih=>
  intro n t cs x hx hp ι m hm hl
  unfold zf at hp
  have self:∀vs:List o8,I7 ι vs=cs→ltL (m.nm ι) vs→shp P m (k+1) t vs→Gets P G w.heap ι m cs (fun m' vs=>shp P m' (k+1) t vs):=fun vs h1 h2 h3=>⟨ι,m,vs,Lifts.refl hm hl,h1,h2,h3⟩
  split at hp
  ·rename_i ht
   obtain⟨b,rfl,_⟩:=DataW.trod_bool ht hx
   exact self [.bool b] rfl ⟨trivial,trivial⟩ (by unfold shp;rw [ht];exact⟨b,rfl⟩)
  ·rename_i ik ht
   obtain⟨i,rfl,_,hw⟩:=DataW.trod_int ht hx
   exact self [.int ik i] rfl ⟨trivial,trivial⟩ (by unfold shp;rw [ht];exact⟨i,rfl,hw⟩)
  ·rename_i ht
   obtain⟨s,rfl,_,hw⟩:=DataW.trod_string ht hx
   have hw':s.data.toList.length≤maxLen:=by simpa using hw
   exact self [.str s.data.toList] (by simp [I7,I4]) ⟨trivial,trivial⟩ (by unfold shp;rw [ht];exact⟨s.data.toList,rfl,hw'⟩)
  ·rename_i e ht
   simp only [Bool.and_eq_true] at hp
   have hce:0<P.cellsOf e:=Nat.blt_eq.mp hp.2
   rcases Deep.open_slice ht hx with⟨rfl,_⟩ | ⟨a,len,cap,mm,n',D,Pl,rfl,_,hlen,hcap,hmm,_,hel⟩
   ·exact self [.nilSlice] rfl ⟨trivial,trivial⟩ (by unfold shp;rw [ht];exact .inl rfl)
   ·have hmm:mm=cap:=by simpa using hmm
    subst hmm
    by_cases h0:mm=0
    ·subst h0
     have hlen:len=0:=by omega
     subst hlen
     have L:=Lifts.push (b:=.dead) (l:=⟨a.block,a.off,0,a.spot⟩) hm hl rfl (by intro h;cases h) trivial
     refine⟨_,_,[.slice m.next 0 0 0],L,?_,⟨⟨.dead,by rw [Mem.ng,Mem.Y5 hm.ok,if_pos rfl],rfl⟩,trivial⟩,?_⟩
     ·simp [I7,I4,Inj.at]
     ·unfold shp
      rw [ht]
      exact .inr ⟨m.next,0,0,rfl,Nat.le_refl _,hcap,.inl ⟨rfl,by rw [Mem.ng,Mem.Y5 hm.ok,if_pos rfl]⟩⟩
    ·obtain⟨row,hrow⟩:=Deep.choose_lt hel
     obtain⟨ι1,m1,rl,g1,g2,g3⟩:=FV (n:=mm) (ce:=P.cellsOf e) (row:=row) (S:=fun m' vs=>shp P m' k e vs) (fun m m' vs h hs=>pY h k e vs hs)
      (fun i hi ι m hm hl=>ih n' e (row i) _ (hrow i hi).2 hp.1 ι m hm hl) mm (Nat.le_refl _) ι m hm hl
     have cell:∀i j,i<mm→j<P.cellsOf e→w.cell? ((a.add (i*P.cellsOf e)).add j)=(row i)[j]?∧(row i).length=P.cellsOf e:=fun i j hi hj=>by
      obtain⟨_,q2,q3⟩:=World.cells?_some (hrow i hi).1
      exact⟨q3 j hj,q2⟩
     have hsome:∀i j,i<mm→j<P.cellsOf e→∃v,(row i)[j]?=some v:=fun i j hi hj=>⟨_,List.getElem?_eq_getElem (by rw [(cell i j hi hj).2];exact hj)⟩
     have hspot:a.spot=none:=by
      obtain⟨v,hv⟩:=hsome 0 0 (by omega) hce
      have:=(cell 0 0 (by omega) hce).1
      rw [hv] at this
      unfold World.cell? at this
      split at this
      ·split at this
       ·cases this
       ·rename_i hn
        simp only [Nat.zero_mul,Addr.add,if_true] at hn
        cases hs:a.spot with
        | none=>rfl
        | some s=>rw [hs] at hn;simp at hn
      ·cases this
     obtain⟨c,et,fz,hc⟩:∃c et fz,w.heap[a.block]?=some (.cells c et fz):=by
      obtain⟨v,hv⟩:=hsome 0 0 (by omega) hce
      have:=(cell 0 0 (by omega) hce).1
      rw [hv] at this
      unfold World.cell? at this
      split at this
      ·rename_i c et fz hh
       simp only [Nat.zero_mul,Addr.add,if_true] at hh
       exact⟨c,et,fz,hh⟩
      ·cases this
     have hadd:∀i j,(a.add (i*P.cellsOf e)).add j=⟨a.block,a.off+(i*P.cellsOf e+j),none⟩:=fun i j=>by
      rw [Deep.add_add]
      unfold Addr.add
      split
      ·rename_i h;rw [h,Nat.add_zero,← hspot]
      ·rfl
     have hcc:∀i j,i<mm→j<P.cellsOf e→c[a.off+(i*P.cellsOf e+j)]?=(row i)[j]?:=fun i j hi hj=>by
      have:=(cell i j hi hj).1
      rw [hadd] at this
      simpa [World.cell?,hc] using this
     have hbound:a.off+mm*P.cellsOf e≤c.size:=by
      obtain⟨v,hv⟩:=hsome (mm-1) (P.cellsOf e-1) (by omega) (by omega)
      have:=hcc (mm-1) (P.cellsOf e-1) (by omega) (by omega)
      rw [hv] at this
      have h1:=(Array.getElem?_eq_some_iff.1 this).1
      have h2:(mm-1)*P.cellsOf e+P.cellsOf e=mm*P.cellsOf e:=by
       rw [← Nat.succ_mul];congr 1;omega
      omega
     have hrl:∀i,i<mm→∃r,rl[i]?=some r∧I7 ι1 r=row i∧ltL (m1.nm ι1) r∧shp P m1 k e r∧r.length=P.cellsOf e:=fun i hi=>by
      have hh:rl[i]?=some rl[i]:=List.getElem?_eq_getElem (by omega)
      obtain⟨q1,q2,q3⟩:=g3 i _ hh
      refine⟨_,hh,q1,q2,q3,?_⟩
      have:=congrArg List.length q1
      rw [U3] at this
      rw [this,(cell i 0 hi hce).2]
     have hne:∀i x,m1.get i=some x→i≠m1.next:=fun i x hx e=>by have:=Mem.L9 g1.rm.ok hx;omega
     have hext:∀j,m1.has j→(ι1.upd m1.next ⟨a.block,a.off,mm*P.cellsOf e,none⟩) j=ι1 j:=fun j ⟨x,hx,_⟩=>ι1.upd_ne _ (hne j x hx)
     have hhas:∀i,m1.has i→(m1.new (.cells (P.cellsOf e) mm (T.ofList rl))).has i:=fun i ⟨x,hx,hv⟩=>⟨x,by rw [Mem.Y5 g1.rm.ok,if_neg (hne i x hx)];exact hx,hv⟩
     have L:=Lifts.push (b:=.cells (P.cellsOf e) mm (T.ofList rl)) (l:=⟨a.block,a.off,mm*P.cellsOf e,none⟩) g1.rm g1.lim rfl (fun _=>rfl)
      ⟨c,et,fz,hc,hbound,⟨Nat.le_refl _,rl.length,by omega,T.eB rl⟩,fun i hi=>by
       obtain⟨r,q1,q2,q3,q4,q5⟩:=hrl i hi
       refine⟨r,by rw [T.bT];exact q1,q5,aW (Mem.aA hhas hext) r q3,fun j hj=>?_⟩
       show c[a.off+(i*P.cellsOf e+j)]?=_
       rw [hcc i j hi hj,← q2,Y1]
       cases hr:r[j]? with
       | none=>rfl
       | some v=>simp [Q7 (n:=m1.nm ι1) hext v (aK.1 q3 v (List.mem_of_getElem? hr))]⟩
     refine⟨_,_,[.slice m1.next 0 len mm],g1.trans L,?_,⟨⟨_,by rw [Mem.ng,Mem.Y5 g1.rm.ok,if_pos rfl],rfl⟩,trivial⟩,?_⟩
     ·simp only [I7,I4]
      rw [Inj.zS (by rw [Inj.U0]),Inj.U0]
      simp only [Nat.add_zero]
      rw [← hspot]
     ·unfold shp
      rw [ht]
      refine .inr ⟨m1.next,len,mm,rfl,hlen,hcap,.inr ⟨T.ofList rl,by omega,by rw [Mem.ng,Mem.Y5 g1.rm.ok,if_pos rfl],fun i hi=>?_⟩⟩
      obtain⟨r,q1,q2,q3,q4,q5⟩:=hrl i hi
      exact⟨r,by rw [T.bT];exact q1,q5,pY L.get k e r q4⟩
  ·rename_i fs ht
   simp only [Bool.and_eq_true,List.all_eq_true] at hp
   obtain⟨xs,n',rfl,_,hcl,hxl,hf⟩:=DataW.trod_struct ht hx
   have:=AX (P:=P) (G:=G) (hp:=w.heap) (cs:=cs) (S:=fun m' t vs=>shp P m' k t vs) (fun m m' t vs h hs=>pY h k t vs hs) fs.toList 0
    (fun f hfm ι m hm hl=>by
     obtain⟨i,hi⟩:=List.getElem?_of_mem hfm
     have hi':fs[i]?=some f:=by simpa using hi
     have h1:=hf i f hi'
     have hlt:i<xs.length:=by rw [hxl];exact (Array.getElem?_eq_some_iff.1 hi').1
     rw [List.getElem?_eq_getElem hlt] at h1
     exact ih n' f.type _ _ h1 (hp.1 f hfm) ι m hm hl) (by rw [hcl];exact hp.2) ι m hm hl
   obtain⟨ι',m',vs,q1,q2,q3,q4⟩:=this
   refine⟨ι',m',vs,q1,by simpa using q2,q3,?_⟩
   unfold shp
   rw [ht]
   exact q4
  ·cases hp
end
end Go.AM
namespace Go.AM
open Go
structure Arr (m:Mem)(id rs:Nat)(l:List (List o8)):Prop where
 pos:0<rs
 len:∀r,r∈l→r.length=rs
 blk:∃c t c',m.get id=some (.cells rs c t)∧l.length≤c∧c≤c'∧T.Ok t c'∧∀i (h:i<l.length),t.get i=some l[i]
structure sI (id:Nat)(m m':Mem):Prop where
 ok:T.Ok m'.t m'.next
 next:m.next≤m'.next
 lim:m'.lim=m.lim
 old:∀i,i<m.next→i≠id→m'.get i=m.get i
theorem sI.refl {id:Nat}{m:Mem}(h:T.Ok m.t m.next):sI id m m:=⟨h,Nat.le_refl _,rfl,fun _ _ _=>rfl⟩
theorem sI.trans {id:Nat}{a b c:Mem}(h:sI id a b)(k:sI id b c):sI id a c:=
 ⟨k.ok,Nat.le_trans h.next k.next,k.lim.trans h.lim,fun i hi hn=>(k.old i (Nat.lt_of_lt_of_le hi h.next) hn).trans (h.old i hi hn)⟩
theorem Ext.toB {id:Nat}{a b:Mem}(h:Ext a b):sI id a b:=⟨h.ok,h.next,h.lim,fun i hi _=>h.old i hi⟩
theorem Ext.uo {id:Nat}{a b c:Mem}(h:Ext a b)(k:sI id b c)(hid:a.next≤id):Ext a c:=
 ⟨k.ok,Nat.le_trans h.next k.next,k.lim.trans h.lim,fun i hi=>(k.old i (Nat.lt_of_lt_of_le hi h.next) (by omega)).trans (h.old i hi)⟩
theorem Arr.same {m m':Mem}{id rs:Nat}{l:List (List o8)}(h:Arr m id rs l)(e:m'.get id=m.get id):Arr m' id rs l:=by
 obtain⟨p,hl,c,t,c',h1,h2⟩:=h
 exact⟨p,hl,c,t,c',e.trans h1,h2⟩
theorem Arr.ext {m m':Mem}{id rs:Nat}{l:List (List o8)}(h:Arr m id rs l)(hid:id<m.next)(e:Ext m m'):Arr m' id rs l:=h.same (e.old id hid)
theorem Arr.take {m:Mem}{id rs:Nat}{l:List (List o8)}(h:Arr m id rs l)(k:Nat):Arr m id rs (l.take k):=by
 obtain⟨p,hl,c,t,c',h1,h2,h0,h3,h4⟩:=h
 refine⟨p,fun r hr=>hl r (List.mem_of_mem_take hr),c,t,c',h1,by simp;omega,h0,h3,fun i hi=>?_⟩
 have hi':i<l.length:=by simp at hi;omega
 rw [h4 i hi',List.getElem_take]
theorem Arr.ldN {m:Mem}{id rs:Nat}{l:List (List o8)}(h:Arr m id rs l){i:Nat}(hi:i<l.length):AM.ldN (m.get id) (i*rs) rs=some (.agg l[i]):=by
 obtain⟨p,hl,c,t,c',h1,h2,h0,h3,h4⟩:=h
 have hr:=hl l[i] (List.getElem_mem hi)
 have hk:=nW (rs:=rs) (n:=c) (rows:=t) (i:=i) (j:=0) (k:=rs) p (by omega) (h4 i hi) hr (by omega)
 rw [Nat.add_zero] at hk
 rw [h1]
 show X0 (some (Blk.cells rs c t)) (fun rs' n rows=>ob (jr rs' n rows (i*rs) rs) fun l=>some (o8.agg l))=_
 rw [bC,hk,O3,List.drop_zero,List.take_of_length_le (by omega)]
theorem Arr.ld1 {m:Mem}{id rs:Nat}{l:List (List o8)}(h:Arr m id rs l){i j:Nat}(hi:i<l.length)(hj:j<rs):AM.ld1 (m.get id) (i*rs+j)=l[i][j]?:=by
 obtain⟨p,hl,c,t,c',h1,h2,h0,h3,h4⟩:=h
 rw [h1]
 show X0 (some (Blk.cells rs c t)) (fun rs' n rows=>cell1 rs' n rows (i*rs+j))=_
 rw [bC,aS hj (by omega) (h4 i hi)]
theorem Arr.store {m:Mem}{id rs:Nat}{l:List (List o8)}(h:Arr m id rs l)(hm:m.Ok)(hid:id<m.next)(hlim:m.lim≤id){i:Nat}(hi:i<l.length){row:List o8}(hr:row.length=rs)(ho:Q6 row=true):
  ∃m',(∀{β:Type} (k:Mem→Option β),storeAt m id (i*rs) row k=k m')∧Arr m' id rs (l.set i row)∧sI id m m':=by
 obtain⟨p,hl,c,t,c',h1,h2,h0,h3,h4⟩:=h
 have hq:Nat.div (i*rs) rs=i:=Nat.mul_div_cancel i p
 have hz:Nat.mod (i*rs) rs=0:=Nat.mul_mod_left i rs
 have hold:=h4 i hi
 have hol:=hl l[i] (List.getElem_mem hi)
 have hw:X8 rs c t (i*rs) row=some (t.put i row):=by
  unfold X8
  rw [hq,hz,show Nat.blt i c=true from Nat.blt_eq.mpr (by omega),hold]
  show bi (Nat.ble (Nat.add 0 (len' row)) rs) (some (t.put i (jq 0 row l[i]))) none=_
  rw [P8,show Nat.ble (Nat.add 0 row.length) rs=true from Nat.ble_eq_true_of_le (by show 0+row.length≤rs;omega),gK _ _ _ (by omega),List.take_zero,Nat.zero_add,
   List.drop_of_length_le (by omega)]
  simp
 refine⟨m.set id (.cells rs c (t.put i row)),fun k=>?_,⟨p,fun r hr'=>?_,c,t.put i row,c',?_,by simpa using h2,h0,T.Ok.put h3 i row (by omega),fun j hj=>?_⟩,?_⟩
 ·rw [X7 hlim ho,h1]
  show ob (ob (X8 rs c t (i*rs) row) fun rows'=>some (Blk.cells rs c rows')) _=_
  rw [hw];rfl
 ·rcases List.mem_or_eq_of_mem_set hr' with h | rfl
  ·exact hl r h
  ·exact hr
 ·rw [Mem.Z6 hm hid,if_pos rfl]
 ·have hj':j<l.length:=by simpa using hj
  rw [List.getElem_set]
  split
  ·rename_i e;subst e;exact T.Y0 h3 _ _ (by omega)
  ·rename_i e;rw [T.aI h3 _ _ _ (by omega) e];exact h4 j hj'
 ·exact⟨Mem.Ok.set hm hid _,by simp,rfl,fun j hj hn=>by rw [Mem.Z6 hm hid,if_neg hn]⟩
theorem oZ {rs n:Nat}{rows:T (List o8)}:∀(a b off:Nat),O1 rs n rows (a+b) off=ob (O1 rs n rows a off) fun x=>ob (O1 rs n rows b (off+a)) fun y=>some (x++y)
 | 0,b,off=>by
  rw [Nat.zero_add,Nat.add_zero]
  show _=ob (O1 rs n rows b off) fun y=>some ([]++y)
  cases O1 rs n rows b off<;>rfl
 | a+1,b,off=>by
  rw [show a+1+b=(a+b)+1 from by omega]
  show ob (cell1 rs n rows off) (fun v=>ob (O1 rs n rows (a+b) (off+1)) fun l=>some (v::l))=ob (ob (cell1 rs n rows off) fun v=>ob (O1 rs n rows a (off+1)) fun l=>some (v::l)) _
  rw [oZ a b (off+1),show off+1+a=off+(a+1) from by omega]
  cases cell1 rs n rows off with
  | none=>rfl
  | some v=>
   simp only [O3]
   cases O1 rs n rows a (off+1) with
   | none=>rfl
   | some x=>
    simp only [O3]
    cases O1 rs n rows b (off+(a+1))<;>rfl
theorem zk {rs n:Nat}{rows:T (List o8)}{i:Nat}{row:List o8}(hi:i<n)(h:rows.get i=some row)(hl:row.length=rs):
  ∀k j,j+k=rs→O1 rs n rows k (i*rs+j)=some (row.drop j):=by
 intro k
 induction k with
 | zero=>intro j hj;rw [List.drop_of_length_le (by omega)];rfl
 | succ k ih=>
  intro j hj
  show ob (cell1 rs n rows (i*rs+j)) (fun v=>ob (O1 rs n rows k (i*rs+j+1)) fun l=>some (v::l))=_
  have hjl:j<row.length:=by omega
  rw [aS (by omega) hi h,List.getElem?_eq_getElem hjl,O3,show i*rs+j+1=i*rs+(j+1) from by omega,ih (j+1) (by omega),List.drop_eq_getElem_cons hjl]
  rfl
theorem iZ {rs n:Nat}{rows:T (List o8)}{l:List (List o8)}(hl:∀r,r∈l→r.length=rs)(h:∀i (h:i<l.length),rows.get i=some l[i])(hn:l.length≤n):
  ∀k i,i+k=l.length→O1 rs n rows (k*rs) (i*rs)=some (l.drop i).flatten:=by
 intro k
 induction k with
 | zero=>intro i hi;rw [List.drop_of_length_le (by omega),Nat.zero_mul];rfl
 | succ k ih=>
  intro i hi
  have hi':i<l.length:=by omega
  have:=zk (n:=n) (i:=i) (by omega) (h i hi') (hl _ (List.getElem_mem hi')) rs 0 (by omega)
  rw [Nat.add_zero,List.drop_zero] at this
  rw [show (k+1)*rs=rs+k*rs from by rw [Nat.add_mul,Nat.one_mul,Nat.add_comm],oZ,this,O3,show i*rs+rs=(i+1)*rs from by rw [Nat.add_mul,Nat.one_mul],ih (i+1) (by omega),O3,List.drop_eq_getElem_cons hi']
  rfl
theorem ru {rs:Nat}:∀(l:List (List o8)),(∀r,r∈l→r.length=rs)→rowsOf rs l.length l.flatten=some l
 | [],_=>rfl
 | r::l,h=>by
  have hr:=h r (by simp)
  show ob (takeN rs (r++l.flatten)) (fun x=>ob (rowsOf rs l.length (jk rs (r++l.flatten))) fun rest=>some (x::rest))=_
  rw [fD _ _ (by simp;omega),O3,eZ,List.drop_left' hr,List.take_left' hr,ru l (fun x hx=>h x (by simp [hx]))]
  rfl
theorem NZ {m:Mem}(hm:m.Ok){rs:Nat}(hp:0<rs){l:List (List o8)}(hl:∀r,r∈l→r.length=rs):Arr (m.new (.cells rs l.length (T.ofList l))) m.next rs l:=
 ⟨hp,hl,l.length,T.ofList l,l.length,by rw [Mem.Y5 hm,if_pos rfl],Nat.le_refl _,Nat.le_refl _,T.eB l,fun i h=>by rw [T.bT,List.getElem?_eq_getElem h]⟩
theorem uq {m:Mem}{rs:Nat}{l:List (List o8)}(hl:∀r,r∈l→r.length=rs):grown m rs l.length l.flatten=some [⟨.sliceU m.next 0 l.length rs,m.new (.cells rs l.length (T.ofList l))⟩]:=by
 show ob (rowsOf rs l.length l.flatten) (fun rows=>one (o8.sliceU m.next 0 l.length rs) (m.new (.cells rs l.length (T.ofList rows))))=_
 rw [ru l hl];rfl
theorem jc:∀(a b:List o8),Q6 (a++b)=(Q6 a&&Q6 b)
 | [],_=>rfl
 | v::a,b=>by
  show bi (K4 v) (Q6 (a++b)) false=(bi (K4 v) (Q6 a) false&&Q6 b)
  rw [jc a b]
  cases K4 v<;>rfl
theorem lu:∀(l:List (List o8)),(∀r,r∈l→Q6 r=true)→Q6 l.flatten=true
 | [],_=>rfl
 | r::l,h=>by
  rw [List.flatten_cons,jc,h r (by simp),lu l (fun x hx=>h x (by simp [hx]))];rfl
theorem jX {rs n:Nat}(hp:0<rs):∀(vs:List o8) (t:T (List o8)) (off k n':Nat),n≤n'→T.Ok t n'→k*rs≤off→off+vs.length≤n*rs→
  ∃t',bZ rs n vs t off=some t'∧T.Ok t' n'∧∀i,i<k→t'.get i=t.get i
 | [],t,off,k,n',_,h,_,_=>⟨t,rfl,h,fun _ _=>rfl⟩
 | v::vs,t,off,k,n',hnn,h,hk,hn=>by
  have hlt:off<n*rs:=by simp at hn;omega
  have hd:off / rs<n:=Nat.div_lt_of_lt_mul (by rw [Nat.mul_comm];exact hlt)
  obtain⟨row,hrow⟩:=(h.get _).2 (Nat.lt_of_lt_of_le hd hnn)
  have hmod:off%rs<rs:=Nat.mod_lt _ hp
  have hkd:k≤off / rs:=(Nat.le_div_iff_mul_le hp).2 hk
  have hw:X8 rs n t off [v]=some (t.put (off / rs) (jq (off%rs) [v] row)):=by
   show bi (Nat.blt (off / rs) n) (ob (t.get (off / rs)) fun row=>bi (Nat.ble (off%rs+1) rs) (some (t.put (off / rs) (jq (off%rs) [v] row))) none) none=_
   rw [show Nat.blt (off / rs) n=true from Nat.blt_eq.mpr hd,hrow,ay,O3,show Nat.ble (off%rs+1) rs=true from Nat.ble_eq_true_of_le hmod];rfl
  obtain⟨t',h1,h2,h3⟩:=jX hp vs (t.put (off / rs) (jq (off%rs) [v] row)) (off+1) k n' hnn (T.Ok.put h _ _ (Nat.lt_of_lt_of_le hd hnn)) (by omega) (by simp at hn;omega)
  refine⟨t',?_,h2,fun i hi=>?_⟩
  ·show ob (X8 rs n t off [v]) (fun rows'=>bZ rs n vs rows' (off+1))=_
   rw [hw];exact h1
  ·rw [h3 i hi,T.aI h _ _ _ (by omega) (by omega)]
theorem Arr.clear {m:Mem}{id rs:Nat}{l:List (List o8)}(h:Arr m id rs l)(hm:m.Ok)(hid:id<m.next)(hlim:m.lim≤id){k:Nat}(hk:k≤l.length){vs:List o8}(hv:k*rs+vs.length≤l.length*rs)(ho:Q6 vs=true):
  ∃m',(∀{β:Type} (f:Mem→Option β),aD m id (k*rs) vs f=f m')∧Arr m' id rs (l.take k)∧sI id m m':=by
 have ht:=h.take k
 obtain⟨p,hl,c,t,c',h1,h2,h0,h3,h4⟩:=h
 cases vs with
 | nil=>exact⟨m,fun f=>rfl,ht,sI.refl hm⟩
 | cons v vs=>
  obtain⟨t',w1,w2,w3⟩:=jX p (v::vs) t (k*rs) k c' h0 h3 (Nat.le_refl _) (Nat.le_trans hv (Nat.mul_le_mul_right _ h2))
  refine⟨m.set id (.cells rs c t'),fun {β} f=>?_,⟨p,ht.len,c,t',c',by rw [Mem.Z6 hm hid,if_pos rfl],by simp;omega,h0,w2,fun i hi=>?_⟩,Mem.Ok.set hm hid _,by simp,rfl,fun j hj hn=>by rw [Mem.Z6 hm hid,if_neg hn]⟩
  ·show bi (Nat.blt id m.lim) none (bi (Q6 (v::vs)) (X0 (m.get id) fun rs' n rows=>ob (bZ rs' n (v::vs) rows (k*rs)) fun rows'=>f (m.set id (.cells rs' n rows'))) none)=f (m.set id (.cells rs c t'))
   rw [show Nat.blt id m.lim=false from Bool.eq_false_iff.2 fun e=>absurd (Nat.blt_eq.mp e) (Nat.not_lt.2 hlim),ho,h1,Y8,ay,bC,w1];rfl
  ·have hi':i<k∧i<l.length:=by simp at hi;omega
   rw [w3 i hi'.1,h4 i hi'.2,List.getElem_take]
theorem rz {z:List o8}:∀n,(N7 z n).length=n*z.length
 | 0=>by rw [Nat.zero_mul];rfl
 | n+1=>by
  show (gJ z (N7 z n)).length=_
  rw [U9,List.length_append,rz n,Nat.add_mul];omega
theorem rA {z:List o8}(h:Q6 z=true):∀n,Q6 (N7 z n)=true
 | 0=>rfl
 | n+1=>by
  show Q6 (gJ z (N7 z n))=true
  rw [U9,jc,h,rA h n];rfl
end Go.AM
