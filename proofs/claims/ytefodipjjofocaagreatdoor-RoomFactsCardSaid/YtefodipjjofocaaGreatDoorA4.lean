/- A part of an evaluator for the model, proved sound: what it answers holds of the model; it speaks of every program, no condition. -/
import Derived.Test.YtefodipjjofocaaGreatDoorA3
import Derived.RecoverIn
import Derived.Deep.Slices
set_option linter.unusedSimpArgs false
set_option linter.unusedVariables false
namespace Go.AM
open Go
theorem gT {α:Type}{f:α→Option Nat}:∀{l:List α},(l.filterMap f).Nodup→∀{i j:Nat} {x y:α} {t:Nat},l[i]?=some x→l[j]?=some y→f x=some t→f y=some t→i=j
 | [],_,i,j,x,y,t,hi,_,_,_=>by simp at hi
 | z :: l,h,i,j,x,y,t,hi,hj,hx,hy=>by
  have hmem:∀{k:Nat} {u:α},l[k]?=some u→f u=some t→t∈l.filterMap f:=fun hk hu=>List.mem_filterMap.2 ⟨_,List.mem_of_getElem? hk,hu⟩
  cases hz:f z with
  | none=>
   rw [List.filterMap_cons_none hz] at h
   cases i with
   | zero=>simp at hi;subst hi;rw [hz] at hx;cases hx
   | succ i=>
    cases j with
    | zero=>simp at hj;subst hj;rw [hz] at hy;cases hy
    | succ j=>exact congrArg Nat.succ (gT h (i:=i) (j:=j) (by simpa using hi) (by simpa using hj) hx hy)
  | some u=>
   rw [List.filterMap_cons_some hz] at h
   obtain⟨h1,h2⟩:=List.nodup_cons.1 h
   cases i with
   | zero=>
    simp at hi;subst hi
    rw [hz] at hx;cases hx
    cases j with
    | zero=>rfl
    | succ j=>exact absurd (hmem (by simpa using hj) hy) h1
   | succ i=>
    cases j with
    | zero=>
     simp at hj;subst hj
     rw [hz] at hy;cases hy
     exact absurd (hmem (by simpa using hi) hx) h1
    | succ j=>exact congrArg Nat.succ (gT h2 (i:=i) (j:=j) (by simpa using hi) (by simpa using hj) hx hy)
section
variable {P:Program}{G:Mem}{slots:List Nat}{nt:Nat}{cf:K7}{ops:Array Oper}
theorem vM {α:Type}(l:List α)(p k:Nat)(hp:p≤l.length)(hk:k < p):(l.take p).reverse[k]?=l[p - 1 - k]?:=by
 rw [List.getElem?_reverse (by simp;omega),List.length_take,List.getElem?_take,if_pos (by omega)]
 congr 1;omega
theorem JK {ord:List Nat}{X:Nat→Nat×Inst}{insts:List Inst}(hlen:insts.length=ord.length)(hX:∀p x,insts[p]?=some x→(X p).2=x):∀p,p≤ord.length→
  zH ord X p=(((((ord.zip insts).take p).filter fun y=>isE y.2).map (·.1)).reverse):=by
 intro p
 induction p with
 | zero=>intro _;rfl
 | succ p ih=>
  intro hp
  have h1:p < (ord.zip insts).length:=by rw [List.length_zip];omega
  have h2:(ord.zip insts)[p]=(ord[p]'(by omega),insts[p]'(by omega)):=List.getElem_zip ..
  rw [List.take_succ_eq_append_getElem h1,List.filter_append,List.map_append,List.reverse_append,← ih (by omega)]
  have h3:(X p).2=insts[p]'(by omega):=hX p _ (List.getElem?_eq_getElem (by omega))
  have h4:ord.getD p 0=ord[p]'(by omega):=by rw [List.getD_eq_getElem?_getD,List.getElem?_eq_getElem (by omega)];rfl
  simp only [zH,h2,h3,h4]
  cases he:isE (insts[p]'(by omega)) <;> simp [he]
theorem qy {α:Type}(f:α→Bool)(l:List α){p q:Nat}(hpq:p < q)(hp:p < l.length)(hf:f l[p]=true):((l.take p).filter f).length < ((l.take q).filter f).length:=by
 have h1:l.take (p + 1)=(l.take q).take (p + 1):=by rw [List.take_take];congr 1;omega
 have h2:((l.take (p + 1)).filter f).length≤((l.take q).filter f).length:=by
  rw [h1]
  exact ((List.take_sublist _ _).filter f).length_le
 rw [List.take_succ_eq_append_getElem hp,List.filter_append] at h2
 simp [hf] at h2
 omega
theorem FN {n:Nat}{l:List (Nat×Inst)}(hcl:Ab P slots ops=some (.dreg n l))(hin:∀(i:Nat)(o:Oper)(t:Tmp),ops[i]?=some o→o.dst=some t→t < nt){b:Nat}{S:Nat→DS}(hls:(S 0).ls=[])(hgs:(S 0).gs=[(S 0).m])(hst:∀p x,l[p]?=some x→DStep cf b x (S p) (S (p + 1))):
  ∃ord X,Fixed P slots nt cf b ops ord X S∧l.length=ord.length:=by
 unfold Ab at hcl
 split at hcl
 ·cases hcl
 ·rename_i insts hci
  split at hcl
  ·rename_i hok
   cases hcl
   generalize hord:canon (EY ops) (masks ops.toList) ops.size=ord at *
   simp only [GJ,Bool.and_eq_true] at hok
   obtain⟨⟨⟨⟨c1,c2⟩,c3⟩,c4⟩,c5⟩:=hok
   obtain⟨hlen,hat⟩:=Cu _ _ _ hci
   obtain⟨hnl,hnum⟩:=xG (masks ops.toList) (ord.zip insts) [] 0
   have hzl:(ord.zip insts).length=ord.length:=by rw [List.length_zip];omega
   generalize hl:numbered (masks ops.toList) (ord.zip insts) [] 0=l at *
   have hz:∀p i x,ord[p]?=some i→insts[p]?=some x→(ord.zip insts)[p]?=some (i,x):=fun p i x h1 h2=>by rw [List.getElem?_zip_eq_some];exact⟨h1,h2⟩
   have hX:∀p i,ord[p]?=some i→∃x o,insts[p]?=some x∧ops[i]?=some o∧BD P slots (dw ops ord p) ops i=some (x,o.dst)∧(l.getD p default).2=x∧l[p]?=some (l.getD p default):=by
    intro p i hp
    obtain⟨x,o,h1,h2,h3⟩:=hat p i hp
    obtain⟨c,h4,_⟩:=hnum p i x (hz p i x hp h1)
    refine⟨x,o,h1,h2,by simpa using h3,by rw [List.getD_eq_getElem?_getD,h4];rfl,by rw [List.getD_eq_getElem?_getD,h4];rfl⟩
   have hlt:∀i∈ord,i < ops.size:=fun i hi=>Eq.mp Nat.blt_eq (List.all_eq_true.1 c2 i hi)
   have hchk:∀p i x,ord[p]?=some i→insts[p]?=some x→mO (masks ops.toList) ops i x ((ord.zip insts).take p).reverse=true:=fun p i x h1 h2=>by
    have:=zF c5 p (i,x) (hz p i x h1 h2)
    simpa using this
   have hbef:∀p q j,q < p→p≤ord.length→ord[q]?=some j→∃x,(j,x)∈((ord.zip insts).take p).reverse∧insts[q]?=some x:=fun p q j hq hp hj=>by
    obtain⟨x,_,h1,_⟩:=hX q j hj
    refine⟨x,List.mem_reverse.2 ?_,h1⟩
    refine List.mem_of_getElem? (i:=q) ?_
    rw [List.getElem?_take,if_pos hq];exact hz q j x hj h1
   have hopd:∀p i,p < ord.length→ord[p]?=some i→∀y,EZ (masks ops.toList) i ((ord.zip insts).take p).reverse y=true→FI ops ord (fun p=>l.getD p default) p i y:=by
    intro p i hp hi y hy
    cases y with
    | con c=>trivial
    | loc k=>
     simp only [EZ] at hy
     split at hy
     ·rename_i z hz'
      have hk:k < p:=by
       have:=(List.getElem?_eq_some_iff.1 hz').1
       simp at this;omega
      rw [vM _ _ _ (by omega) hk] at hz'
      obtain⟨h1,_⟩:=List.getElem?_zip_eq_some.1 hz'
      exact⟨z.1,hk,h1,fQ ops i z.1 hy⟩
     ·cases hy
    | slot j=>
     intro q hq e
     obtain⟨x,hm,hx⟩:=hbef p q (ord[q]'(by omega)) hq (by omega) (List.getElem?_eq_getElem (by omega))
     obtain⟨x',o',h1,_,_,h2,_⟩:=hX q (ord[q]'(by omega)) (List.getElem?_eq_getElem (by omega))
     rw [hx] at h1;cases h1
     have:=List.all_eq_true.1 hy _ hm
     rw [h2] at e
     simp [e] at this
   refine⟨ord,fun p=>l.getD p default,⟨mF c1,fun i hi=>?_,hlt,fun p i hp=>?_,fun p hp=>?_,fun p i hp hE q j hq hj=>?_,fun p i o hp ho e he hb=>?_,fun i j oi oj t hi hj h1 h2=>?_,fun i o t ho ht q oq hq hne hqt=>?_,fun p i hp y hy=>?_,
    fun p i y wt hp hg=>?_,fun p i o hp ho=>?_,fun p q o o' hpq hq ho ho'=>?_,hin,hgs,hls⟩,by rw [hnl,hzl]⟩
   ·have:=List.all_eq_true.1 c3 i (List.mem_range.2 hi)
    simpa using this
   ·obtain⟨x,o,h1,h2,h3,h4,_⟩:=hX p i hp
    obtain⟨o',g1,g2,g3,g4,g5⟩:=lq h3
    rw [h2] at g1;cases g1
    exact⟨o,h2,by show (l.getD p default).2.op=_;rw [h4];exact g3,by show (l.getD p default).2.dst=_;rw [h4];exact g4,by show gM _ _ _ (l.getD p default).2.guard;rw [h4];exact g5⟩
   ·obtain⟨x,o,_,_,_,_,h5⟩:=hX p (ord[p]) (List.getElem?_eq_getElem hp)
    exact hst p _ h5
   ·obtain⟨x,o,h1,h2,h3,h4,_⟩:=hX p i hp
    have hE:isE (l.getD p default).2=true:=hE
    rw [h4] at hE
    have hc:=hchk p i x hp h1
    simp only [mO,Bool.and_eq_true] at hc
    have hc:=hc.1.1.1
    unfold isE at hE
    split at hE
    ·rename_i eo heo
     rw [heo] at hc
     obtain⟨x',hm,_⟩:=hbef p q j hq (by have:=(List.getElem?_eq_some_iff.1 hp).1;omega) hj
     exact fQ ops i j (List.all_eq_true.1 hc _ hm)
    ·cases hE
   ·obtain⟨x,o',h1,h2,h3,h4,_⟩:=hX p i hp
    have hc:=hchk p i x hp h1
    simp only [mO,Bool.and_eq_true] at hc
    have hc:=hc.1.1.2
    rw [ho] at hc
    simp only [Bool.and_eq_true] at hc
    have:=List.all_eq_true.1 hc.1 e (by simpa using he)
    rw [hb] at this
    simp only [Bool.not_true,Bool.false_or] at this
    obtain⟨y,hy,hye⟩:=List.any_eq_true.1 this
    obtain⟨q,hq⟩:=List.getElem?_of_mem (List.mem_reverse.1 hy)
    rw [List.getElem?_take] at hq
    split at hq
    ·rename_i hqp
     obtain⟨g1,_⟩:=List.getElem?_zip_eq_some.1 hq
     exact⟨q,hqp,by rw [g1];simpa using hye⟩
    ·cases hq
   ·exact gT (mF c4) (by simpa using hi) (by simpa using hj) h1 h2
   ·obtain⟨p,hp⟩:=List.getElem?_of_mem (show i∈ord from by have:=List.all_eq_true.1 c3 i (List.mem_range.2 (Array.getElem?_eq_some_iff.1 ho).1);simpa using this)
    obtain⟨x,o',h1,h2,h3,h4,_⟩:=hX p i hp
    have hc:=hchk p i x hp h1
    simp only [mO,Bool.and_eq_true] at hc
    have hc:=hc.1.1.2
    rw [ho] at hc
    simp only [Bool.and_eq_true] at hc
    have:=List.all_eq_true.1 (List.all_eq_true.1 hc.2 t ht) q (List.mem_range.2 (Array.getElem?_eq_some_iff.1 hq).1)
    rw [hq] at this
    simp only [hqt,bne_self_eq_false,Bool.or_false,Bool.or_eq_true,beq_iff_eq] at this
    rcases this with (h | h) | h
    ·exact absurd h hne
    ·exact .inl (fQ ops i q h)
    ·exact .inr (fQ ops q i h)
   ·obtain⟨x,o',h1,h2,h3,h4,_⟩:=hX p i hp
    have hc:=hchk p i x hp h1
    simp only [mO,Bool.and_eq_true] at hc
    have hy:y∈Qa (l.getD p default).2.op:=hy
    rw [h4] at hy
    exact hopd p i (List.getElem?_eq_some_iff.1 hp).1 hp y (List.all_eq_true.1 hc.1.2 y hy)
   ·obtain⟨x,o',h1,h2,h3,h4,_⟩:=hX p i hp
    have hc:=hchk p i x hp h1
    simp only [mO,Bool.and_eq_true] at hc
    have hg:(l.getD p default).2.guard=some (y,wt):=hg
    rw [h4] at hg
    have hc:=hc.2
    rw [hg] at hc
    exact hopd p i (List.getElem?_eq_some_iff.1 hp).1 hp y hc
   ·obtain⟨x,o',h1,h2,h3,h4,h5⟩:=hX p i hp
    obtain⟨c,g1,g2,_⟩:=hnum p i x (hz p i x hp h1)
    have ho:(l.getD p default).2.op=.r o:=ho
    rw [h4] at ho
    have hc:(l.getD p default).1=c:=by rw [List.getD_eq_getElem?_getD,g1];rfl
    show (l.getD p default).1=_
    rw [hc,g2 (by simp [isR,ho]),List.append_nil,JK hlen (fun p x hp'=>?_) p (Nat.le_of_lt (List.getElem?_eq_some_iff.1 hp).1)]
    have hpl:p < ord.length:=by have:=(List.getElem?_eq_some_iff.1 hp').1;omega
    obtain⟨x',_,g3,_,_,g4,_⟩:=hX p (ord[p]) (List.getElem?_eq_getElem hpl)
    rw [hp'] at g3;cases g3;exact g4
   ·have hp:p < ord.length:=by omega
    obtain⟨x,o1,h1,h2,h3,h4,h5⟩:=hX p (ord[p]) (List.getElem?_eq_getElem hp)
    obtain⟨y,o2,k1,k2,k3,k4,k5⟩:=hX q (ord[q]) (List.getElem?_eq_getElem hq)
    obtain⟨c,g1,_,g2⟩:=hnum p _ x (hz p _ x (List.getElem?_eq_getElem hp) h1)
    obtain⟨c',g3,_,g4⟩:=hnum q _ y (hz q _ y (List.getElem?_eq_getElem hq) k1)
    have ho:(l.getD p default).2.op=.a o:=ho
    have ho':(l.getD q default).2.op=.a o':=ho'
    rw [h4] at ho;rw [k4] at ho'
    show (l.getD p default).1 < (l.getD q default).1
    rw [show (l.getD p default).1=c from by rw [List.getD_eq_getElem?_getD,g1];rfl,show (l.getD q default).1=c' from by rw [List.getD_eq_getElem?_getD,g3];rfl,g2 (by simp [isR,ho]),g4 (by simp [isR,ho'])]
    have hzp:(ord.zip insts)[p]'(by rw [hzl];exact hp)=(ord[p],x):=by
     have:=hz p _ x (List.getElem?_eq_getElem hp) h1
     rw [List.getElem?_eq_getElem (by rw [hzl];exact hp)] at this
     exact Option.some.inj this
    have:=qy (fun y:Nat×Inst=>isA y.2) (ord.zip insts) hpq (by rw [hzl];exact hp) (by rw [hzp];simp [isA,ho])
    omega
  ·cases hcl
def Aw (n:Nat)(listed:Array Bool):Nat:=((List.range n).filter fun i=>!listed.getD i false).length
theorem Cy {listed:Array Bool}{n i:Nat}(hn:listed.size=n)(hi:i < n)(hun:listed.getD i false=false):Aw n (listed.setIfInBounds i true) + 1=Aw n listed:=by
 unfold Aw
 have key:∀l:List Nat,l.Nodup→(l.filter fun j=>!(listed.setIfInBounds i true).getD j false).length + (if i∈l then 1 else 0)=(l.filter fun j=>!listed.getD j false).length:=by
  intro l
  induction l with
  | nil=>intro _;simp
  | cons x l ih=>
   intro h
   obtain⟨h1,h2⟩:=List.nodup_cons.1 h
   have:=ih h2
   by_cases hx:x=i
   ·subst hx
    rw [if_neg h1] at this
    rw [if_pos (by simp),List.filter_cons_of_neg (by rw [eU _ _ _ (by omega),if_pos rfl];simp),List.filter_cons_of_pos (by rw [hun];rfl),List.length_cons]
    omega
   ·have e:(listed.setIfInBounds i true).getD x false=listed.getD x false:=by rw [eU _ _ _ (by omega),if_neg hx]
    have hmem:(i∈x :: l)↔i∈l:=List.mem_cons.trans ⟨fun h=>h.resolve_left (fun e=>hx e.symm),.inr⟩
    simp only [hmem]
    cases hl:listed.getD x false with
    | true=>rw [List.filter_cons_of_neg (by rw [e,hl];simp),List.filter_cons_of_neg (by rw [hl];simp)];exact this
    | false=>rw [List.filter_cons_of_pos (by rw [e,hl];rfl),List.filter_cons_of_pos (by rw [hl];rfl),List.length_cons,List.length_cons];omega
 have:=key (List.range n) List.nodup_range
 rw [if_pos (List.mem_range.2 hi)] at this
 exact this
theorem FP {b:Nat}{ord:List Nat}{X:Nat→Nat×Inst}{S:Nat→DS}{listed:Array Bool}(F:Fixed P slots nt cf b ops ord X S)(hall:∀p,p < ord.length→Lp ord listed p=true):∀p,p≤ord.length→EC ord X S listed p=(S p).env:=by
 intro p
 induction p with
 | zero=>intro _;rfl
 | succ p ih=>
  intro hp
  obtain⟨_,h2⟩:=F.ls (p:=p) (by omega)
  rw [h2,← ih (by omega)]
  show trD (X p).2.dst (vm ord S listed p) _=_
  simp [vm,hall p (by omega)]
theorem Y0.JL {ι:Inj}{n:Nm}{env:T l8}{A B:Array Value}(h:Y0 ι n slots env A)(hs:A.size=B.size)(he:∀t,A.getD t undef=B.getD t undef):Y0 ι n slots env B:=
 ⟨h.ok,h.small,fun t j ht=>by
  obtain⟨h1,v,h2,h3,h4⟩:=h.val t j ht
  exact⟨by omega,v,h2,h3,by rw [← he];exact h4⟩⟩
theorem fU (hmix:P.follows .mixedOrders=true)(hcf:qU P G cf)(slots:List Nat)(nt:Nat)(r:Option Nat):dV P G slots nt cf r:=by
 intro id ops n l hcl hin Q env m ι w a outs hm hen hnt hv hQ
 obtain⟨S,hS0,hstep,hout⟩:=Av l ⟨[],env,reserve n m,[reserve n m]⟩ outs hv
 obtain⟨ord,X,F,hll⟩:=FN (cf:=cf) (b:=m.next) (S:=S) hcl hin (by rw [hS0]) (by rw [hS0]) hstep
 refine wpIn_region_any hmix ?_
 have hb:m.lim≤m.next:=hm.limn
 have hen0:Y0 ι (m.nm ι) slots (S 0).env a.tmps:=by rw [hS0];exact hen
 have main:∀(fuel:Nat) (listed:Array Bool) (a':Act) (w':World) (ι':Inj) (q:Nat),pz P G m.next ops ord X S ι m w a listed a' w' ι' q→Aw ops.size listed=fuel→
   wpAnyIn (FR r) 0 P .any ops Q fuel listed a' w':=by
  intro fuel
  induction fuel with
  | zero=>
   intro listed a' w' ι' q D hleft
   have hall:∀i,i < ops.size→listed.getD i false=true:=fun i hi=>by
    cases hl:listed.getD i false with
    | true=>rfl
    | false=>
     have:i∈(List.range ops.size).filter fun i=>!listed.getD i false:=List.mem_filter.2 ⟨List.mem_range.2 hi,by rw [hl];rfl⟩
     rw [List.length_eq_zero_iff.1 hleft] at this
     cases this
   have hL:∀p,p < ord.length→Lp ord listed p=true:=fun p hp=>by
    rw [pE (List.getElem?_eq_getElem hp)];exact hall _ (F.lt _ (List.getElem_mem hp))
   refine⟨?_,?_⟩
   ·unfold Region.ready
    refine List.filter_eq_nil_iff.2 fun i hi=>?_
    have hi:=List.mem_range.1 hi
    have h1:listed.getD i true=true:=by
     have:=hall i hi
     rw [Array.getD_eq_getD_getElem?,Array.getElem?_eq_getElem (by rw [D.len];exact hi)] at this ⊢
     exact this
    simp [h1]
   ·have hq:=D.hq
    have hfin:=F.lay_all (q:=q) (L:=Lp ord listed) (ord.length - q) (by omega) fun k hk=>⟨hL _ (by omega),by
     cases he:isE (X (q + k)).2 with
     | false=>rfl
     | true=>have:=D.high (q + k) (by omega) he;rw [hL _ (by omega)] at this;cases this⟩
    rw [show q + (ord.length - q)=ord.length from by omega] at hfin
    have hst:=D.lay F hb (ord.length - q) (by omega)
    have s:=D.st F hb hen0 hnt (ord.length - q) (by omega) ord.length (by omega)
    rw [hfin] at hst s
    have henv:=s.env
    rw [FP F hL ord.length (Nat.le_refl _)] at henv
    refine hQ ⟨(S ord.length).env,(S ord.length).m,none,[]⟩ (by rw [hout,← hll];exact List.mem_singleton.2 rfl) rfl rfl ι' w' a' hst (henv.JL (by rw [jF,D.sz]) fun t=>?_) D.defs D.sz
    by_cases hw:∃(i:Nat) (o:Oper),ops[i]?=some o∧o.dst=some t
    ·obtain⟨i,o,ho,ht⟩:=hw
     obtain⟨p,hp⟩:=List.getElem?_of_mem (F.all i (Array.getElem?_eq_some_iff.1 ho).1)
     have hpl:=(List.getElem?_eq_some_iff.1 hp).1
     rw [D.tw p i o t hp (hall i (Array.getElem?_eq_some_iff.1 ho).1) ho ht,zI F hnt hp ho ht ord.length hpl]
     simp [vm,hL p hpl]
    ·rw [D.tn t fun i o _ ho ht=>hw ⟨i,o,ho,ht⟩,tC ord.length fun r i o _ _ ho ht=>hw ⟨i,o,ho,ht⟩]
  | succ fuel ih=>
   intro listed a' w' ι' q D hleft
   refine⟨fun hnil=>?_,fun i hi=>?_⟩
   ·
    exfalso
    have hex:∃p,p < ord.length∧Lp ord listed p=false:=by
     have:((List.range ops.size).filter fun i=>!listed.getD i false)≠[]:=fun e=>by unfold Aw at hleft;rw [e] at hleft;cases hleft
     obtain⟨i,hi⟩:=List.exists_mem_of_ne_nil _ this
     obtain⟨h1,h2⟩:=List.mem_filter.1 hi
     obtain⟨p,hp⟩:=List.getElem?_of_mem (F.all i (List.mem_range.1 h1))
     exact⟨p,(List.getElem?_eq_some_iff.1 hp).1,by rw [pE hp];simpa using h2⟩
    have hmin:∀N,(∃p,p < N∧p < ord.length∧Lp ord listed p=false)→∃p,p < ord.length∧Lp ord listed p=false∧∀q,q < p→Lp ord listed q=true:=by
     intro N
     induction N with
     | zero=>rintro⟨p,h,_⟩;omega
     | succ N ihN=>
      rintro⟨p,h1,h2,h3⟩
      by_cases hx:∃p,p < N∧p < ord.length∧Lp ord listed p=false
      ·exact ihN hx
      ·refine⟨p,h2,h3,fun q hq=>?_⟩
       cases hl:Lp ord listed q with
       | true=>rfl
       | false=>exact absurd ⟨q,by omega,by omega,hl⟩ hx
    obtain⟨p0,hp0,hp1⟩:=hex
    obtain⟨p,h1,h2,h3⟩:=hmin (p0 + 1) ⟨p0,by omega,hp0,hp1⟩
    have hp:=List.getElem?_eq_getElem h1
    have hmem:ord[p]∈Region.ready .any ops listed:=by
     obtain⟨o,ho,_⟩:=F.inst p _ hp
     refine mem_ready.2 ⟨?_,o,ho,fun e he hbnd=>?_⟩
     ·rw [pE hp] at h2
      have hlt:ord[p] < listed.size:=by rw [D.len];exact F.lt _ (List.getElem_mem h1)
      rw [Array.getD_eq_getD_getElem?,Array.getElem?_eq_getElem hlt] at h2 ⊢
      exact h2
     ·obtain⟨q',hq',hq2⟩:=F.edges p _ o hp ho e he hbnd
      have:=h3 q' hq'
      rw [pE hq2] at this;exact this
    rw [hnil] at hmem;cases hmem
   ·obtain⟨hun,o,ho,hr⟩:=mem_ready.1 hi
    have hlt:i < listed.size:=by rw [D.len];exact (Array.getElem?_eq_some_iff.1 ho).1
    have hun:listed.getD i false=false:=by
     rw [Array.getD_eq_getD_getElem?,Array.getElem?_eq_getElem hlt] at hun ⊢
     exact hun
    refine pz.op hcf F hb hen0 hnt D ho hun hr fun a2 w2 ι2 q2 D2=>?_
    refine ih _ a2 w2 ι2 q2 D2 ?_
    have:=Cy D.len (by rw [← D.len];exact hlt) hun
    omega
 have hst0:Step P G ι m w ι (reserve n m) {w with drawn:=w.drawn + 1}:=(Step.drew hm _).trans (nC n (Step.drew hm (w.drawn + 1)).rm)
 have hget:∀i,(Array.replicate ops.size false).getD i false=false:=fun i=>by
  rw [Array.getD_eq_getD_getElem?,Array.getElem?_replicate];split <;> rfl
 have hL0:∀p,Lp ord (Array.replicate ops.size false) p=false:=fun p=>by
  unfold Lp
  split
  ·exact hget _
  ·rfl
 refine main _ _ a _ ι 0 ⟨Nat.zero_le _,.inl rfl,fun p hp=>by omega,fun p _ _=>hL0 p,by rw [hS0];exact hst0,(fun d i blk h=>by rw [hL0] at h;cases h),(fun d d' i i' blk blk' _ h=>by rw [hL0] at h;cases h),
  (fun d h=>by rw [hL0] at h;cases h),(fun p hp=>by omega),(fun p i o t _ h=>by rw [hget] at h;cases h),fun t _=>rfl,rfl,rfl,(fun i o h=>by rw [hget] at h;cases h),by simp⟩ ?_
 unfold Aw
 rw [List.filter_eq_self.2 (fun i _=>by rw [hget];rfl),List.length_range]
end
end Go.AM
namespace Go.AM
open Go
section
variable {P:Program}{G:Mem}{ι:Inj}{n:Nm}{m:Mem}{w:World}{slots:List Nat}
def mH (ι:Inj):Option l8→FrameMode→Prop
 | some x,u=>u=.panicking [{v:=G5 ι x,recovered:=false}]
 | none,u=>u=.returning∨∃v,u=.panicking [{v,recovered:=true}]
theorem mH.settle {md:Option l8}{u:FrameMode}(h:mH ι md u):Go.settle u=xD ι md:=by
 cases md with
 | some x=>obtain rfl:u=_:=h;rfl
 | none=>rcases h with rfl | ⟨v,rfl⟩ <;> rfl
theorem mH.of {md:Option l8}:mH ι md (xD ι md):=by
 cases md with
 | some x=>rfl
 | none=>exact .inl rfl
theorem mH.step {ι':Inj}{m':Mem}{w':World}{md:Option l8}{u:FrameMode}(h:mH ι md u)(hmd:Ar ι m md)(hst:Step P G ι m w ι' m' w'):mH ι' md u:=by
 cases md with
 | some x=>
  have h:u=_:=h
  have:=hst.G5 (hmd x rfl)
  show u=.panicking [{v:=G5 ι' x,recovered:=false}]
  rw [this];exact h
 | none=>exact h
theorem Cz (i:Inst)(l:List Inst)(cf:K7)(ls:List l8)(env:T l8)(m:Mem)(md:Option l8):
  wD (i :: l) cf ls env m md=match isRec i with
   | true=>match md with
    | some x=>wD l cf (x :: ls) (trD i.dst x env) m none
    | none=>wD l cf (.nilIface :: ls) (trD i.dst .nilIface env) m none
   | false=>match i.op with
    | .p o=>ob (EX i.guard (trP o) ls env) fun v=>wD l cf (v :: ls) (trD i.dst v env) m md
    | .r o=>ob (Bq i.guard (trR o) ls env m) fun v=>wD l cf (v :: ls) (trD i.dst v env) m md
    | _=>none:=rfl
theorem lF {ops:Array Oper}{o:Oper}{i:Nat}{rest:List Nat}(ho:ops[i]?=some o){done:List (Option Nat)}{ls:List l8}{env:T l8}{a:Act}{cs:List Frame}{Q:Exit→Act→List Frame→World→Prop}
  (s:St P ι n slots done ls env a.tmps) {g:Option (Opd×Bool)} (hg:gM ops done o.guard g) {v u:l8} (hu:u=bi (xA g ls env) v .undef)
  (hrun:xA g ls env=true→(execOp a.eval o).run P w=.ok (.value (G5 ι v)) w) (h:wpOpsSIn Fence.wide 0 P ops Q rest (a.put o.dst (G5 ι u)) cs w):
  wpOpsSIn Fence.wide 0 P ops Q (i :: rest) a cs w:=by
 simp only [wpOpsSIn,ho]
 refine⟨fun _ _=>trivial,?_⟩
 rw [iW s hg]
 cases hb:xA g ls env with
 | true=>
  rw [hb] at hu
  obtain rfl:u=v:=hu
  simp only [if_true]
  rw [hrun hb]
  exact h
 | false=>
  rw [hb] at hu
  obtain rfl:u=.undef:=hu
  rw [dJ] at h
  simp only [Bool.false_eq_true,if_false]
  exact h
theorem JM (g:Option (Opd×Bool))(f:PF)(ls:List l8)(env:T l8):EX g f ls env=bi (xA g ls env) (f ls env) (some .undef):=by
 cases g <;> rfl
theorem JN (g:Option (Opd×Bool))(f:RF)(ls:List l8)(env:T l8)(m:Mem):Bq g f ls env m=bi (xA g ls env) (f ls env m) (some .undef):=by
 cases g <;> rfl
theorem QY {done:List (Option Nat)}{op:Op}{po:POp}(h:.p po=pX P slots done op):cOp P slots done op=some (.p po):=by
 unfold pX at h
 split at h
 ·rename_i ao hao;rw [hao,← h]
 ·cases h
theorem QZ {done:List (Option Nat)}{op:Op}{ro:ROp}(h:.r ro=pX P slots done op):cOp P slots done op=some (.r ro):=by
 unfold pX at h
 split at h
 ·rename_i ao hao;rw [hao,← h]
 ·cases h
theorem FQ {done:List (Option Nat)}{op:Op}(h:.e .recover=pX P slots done op):cOp P slots done op=some (.e .recover):=by
 unfold pX at h
 split at h
 ·rename_i ao hao;rw [hao,← h]
 ·cases h
theorem FT {i:Inst}(h:isRec i=true):i.op=.e .recover∧i.guard=none:=by
 unfold isRec at h
 split at h
 ·exact⟨by assumption,by assumption⟩
 ·cases h
theorem Ay {cf:K7}{ops:Array Oper}{nt:Nat}(hin:∀(i:Nat)(o:Oper)(t:Tmp),ops[i]?=some o→o.dst=some t→t < nt){Q:Exit→Act→List Frame→World→Prop}{c₀:Frame}{cs:List Frame}
  (hm:RM P G ι m w.heap):
  ∀(l:List Nat) (done:List (Option Nat)) (insts:List Inst),ig P slots ops done l=some insts→∀(ls:List l8) (env:T l8) (md:Option l8) (u:FrameMode) (a:Act) (outs:List (EM×Option l8)),
   nt≤a.tmps.size→St P ι (m.nm ι) slots done ls env a.tmps→Ar ι m md→mH ι md u→wD insts cf ls env m md=some outs→
   (∀r∈outs,∀u' a',r.1.m=m→Y0 ι (m.nm ι) slots r.1.env a'.tmps→a'.defers=a.defers→a'.tmps.size=a.tmps.size→Ar ι m r.2→mH ι r.2 u'→Q .normal a' ({c₀ with mode:=u'} :: cs) w)→
   wpOpsSIn Fence.wide 0 P ops Q l a ({c₀ with mode:=u} :: cs) w:=by
 intro l
 induction l with
 | nil=>
  intro done insts hc ls env md u a outs hnt s hmd hrel hv hQ
  simp only [ig,Option.some.injEq] at hc;subst hc
  have hv:some [((⟨env,m,none,[]⟩:EM),md)]=some outs:=by rw [← hv,wD]
  cases hv
  exact hQ _ (List.mem_singleton.2 rfl) u a rfl s.env rfl rfl hmd hrel
 | cons i rest ih=>
  intro done insts hc ls env md u a outs hnt s hmd hrel hv hQ
  obtain⟨x,d,l,hx,hl,rfl⟩:=gN hc
  obtain⟨o,h1,rfl,h2,h3,h4⟩:=lq hx
  rw [Cz] at hv
  have step:∀(v:l8) (md':Option l8) (u':FrameMode),v.lt (m.nm ι)→Ar ι m md'→mH ι md' u'→wD l cf (v :: ls) (trD x.dst v env) m md'=some outs→
    wpOpsSIn Fence.wide 0 P ops Q rest (a.put o.dst (G5 ι v)) ({c₀ with mode:=u'} :: cs) w:=by
   intro v md' u' hlt hmd' hrel' hv
   rw [h3] at hv
   have s':=s.put o.dst (fun t ht=>Nat.lt_of_lt_of_le (hin i o t h1 ht) hnt) hlt
   refine ih _ _ hl _ _ md' u' (a.put o.dst (G5 ι v)) outs (by rw [aU];exact hnt) (by rw [(gK a o.dst (G5 ι v)).1];exact s') hmd' hrel' hv ?_
   intro r hr u'' a' e1 e2 e3 e4 e5 e6
   exact hQ r hr u'' a' e1 e2 (by rw [e3,(gK a o.dst _).2]) (e4.trans (aU a o.dst _)) e5 e6
  cases hr:isRec x with
  | true=>
   rw [hr] at hv
   obtain⟨g1,g2⟩:=FT hr
   rw [g1] at h2
   rw [g2] at h4
   have hop:=FQ h2
   have hw:Region.wanted o (yielded ops a.tmps)=true:=by rw [iW s h4];rfl
   have hrun:(execOp a.eval o).run P w=.ok .recover w:=by
    cases ho:o.op with
    | call c=>
     rw [ho] at hop
     cases oM hop with
     | recover hcal=>simp [execOp,ho,resolve,hcal,invoke,builtin]
    | _=>rw [ho] at hop;cases oM hop
   simp only [wpOpsSIn,h1]
   refine⟨fun _ _=>trivial,?_⟩
   rw [hw,if_pos rfl,hrun]
   cases md with
   | some y=>
    obtain rfl:u=.panicking [{v:=G5 ι y,recovered:=false}]:=hrel
    exact step y none (.panicking [{v:=G5 ι y,recovered:=true}]) (hmd y rfl) (fun _ h=>by cases h) (.inr ⟨_,rfl⟩) hv
   | none=>
    have hrec:recoverD ({c₀ with mode:=u} :: cs)=none:=by
     rcases hrel with rfl | ⟨v,rfl⟩ <;> rfl
    show (match recoverD ({c₀ with mode:=u} :: cs) with
     | some (v,cs')=>wpOpsSIn Fence.wide 0 P ops Q rest (a.put o.dst v) cs' w
     | none=>wpOpsSIn Fence.wide 0 P ops Q rest (a.put o.dst .nilIface) ({c₀ with mode:=u} :: cs) w)
    rw [hrec]
    have:=step .nilIface none u trivial hmd hrel hv
    simp only [G5] at this
    exact this
  | false=>
   rw [hr] at hv
   obtain⟨op,dst,guard⟩:=x
   cases op with
   | p po=>
    have hv:ob (EX guard (trP po) ls env) (fun v=>wD l cf (v :: ls) (trD dst v env) m md)=some outs:=hv
    obtain⟨v,hv1,hv⟩:=I7 hv
    rw [JM] at hv1
    have hop:=QY h2
    cases hb:xA guard ls env with
    | true=>
     rw [hb] at hv1
     have hv1:trP po ls env=some v:=hv1
     obtain⟨g1,g2⟩:=jw s hop hv1
     exact lF h1 s h4 (v:=v) (u:=v) (by rw [hb];rfl) (fun _=>g2 o rfl w) (step v md u g1 hmd hrel hv)
    | false=>
     rw [hb] at hv1
     obtain rfl:l8.undef=v:=Option.some.inj hv1
     exact lF h1 s h4 (v:=.undef) (u:=.undef) (by rw [hb];rfl) (fun h=>by rw [hb] at h;cases h) (step .undef md u trivial hmd hrel hv)
   | r ro=>
    have hv:ob (Bq guard (trR ro) ls env m) (fun v=>wD l cf (v :: ls) (trD dst v env) m md)=some outs:=hv
    obtain⟨v,hv1,hv⟩:=I7 hv
    rw [JN] at hv1
    have hop:=QZ h2
    cases hb:xA guard ls env with
    | true=>
     rw [hb] at hv1
     have hv1:trR ro ls env m=some v:=hv1
     obtain⟨g1,g2⟩:=jy s hm (nR hop) hv1
     exact lF h1 s h4 (v:=v) (u:=v) (by rw [hb];rfl) (fun _=>g2 o rfl) (step v md u g1 hmd hrel hv)
    | false=>
     rw [hb] at hv1
     obtain rfl:l8.undef=v:=Option.some.inj hv1
     exact lF h1 s h4 (v:=.undef) (u:=.undef) (by rw [hb];rfl) (fun h=>by rw [hb] at h;cases h) (step .undef md u trivial hmd hrel hv)
   | a _=>cases hv
   | e _=>cases hv
def GX (P:Program)(G:Mem)(slots:List Nat)(nt:Nat)(cf:K7)(fuel:Nat)(c:Code)(ac:Z4):Prop:=
 ∀(Q:Exit→Act→List Frame→World→Prop) (env:T l8) (m:Mem) (md:Option l8) (ι:Inj) (w:World) (a:Act) (c₀:Frame) (cs:List Frame) (u:FrameMode) (outs:List abZ),
  RM P G ι m w.heap→Y0 ι (m.nm ι) slots env a.tmps→nt≤a.tmps.size→a.defers=[]→Ar ι m md→mH ι md u→dEv ac cf fuel env m md=some outs→
  (∀r∈outs,∀ι' w' a' u',Step P G ι m w ι' r.o.m w'→Y0 ι' (r.o.m.nm ι') slots r.o.env a'.tmps→a'.tmps.size=a.tmps.size→bF ι' r.o.m r.o.marks a'.defers→Qd ι' r.o→Ar ι' r.o.m r.md→mH ι' r.md u'→Q (FD ι' r.o) a' ({c₀ with mode:=u'} :: cs) w')→
  c.wpSIn Fence.wide 0 P Q a ({c₀ with mode:=u} :: cs) w
theorem V9 {nt:Nat}{cf:K7}(hcf:qU P G cf)(fuel:Nat)(hdraw:dV P G slots nt cf none){c:Code}{ac:Z4}(hc:R9 P slots c=some ac)(ht:tmpsIn nt c=true)
  (hev:∀env m md,dEv ac cf fuel env m md=bnd (trC ac cf fuel none env m []) fun o=>some [⟨o,md⟩]):GX P G slots nt cf fuel c ac:=by
 intro Q env m md ι w a c₀ cs u outs hm hen hnt hdef hmd hrel hv hQ
 rw [hev] at hv
 obtain⟨os,hos,hk⟩:=U8 hv
 refine wpSIn_of_wpIn rfl (jE hcf fuel hdraw c ac hc ht _ none env m [] ι w a os hm hen hnt ⟨by rw [hdef];rfl,fun _ h=>by cases h⟩ ⟨rfl,fun _ h=>by cases h⟩ hos ?_)
 intro o ho ι' w' a' hst hen' hsz hmk hpv
 obtain⟨rs,hrs,hsub⟩:=hk o ho
 cases hrs
 exact hQ _ (hsub _ (List.mem_singleton.2 rfl)) ι' w' a' u hst hen' hsz hmk hpv (hmd.step hst).1 (hrel.step hmd hst)
theorem CB {nt:Nat}{cf:K7}(hcf:qU P G cf)(fuel:Nat)(hdraw:dV P G slots nt cf none):∀(c:Code) (ac:Z4),R9 P slots c=some ac→tmpsIn nt c=true→GX P G slots nt cf fuel c ac:=by
 intro c
 induction c with
 | region id ops d=>
  intro ac hc ht
  cases d with
  | true=>
   refine V9 hcf fuel hdraw hc ht ?_
   have hform:∃n l,ac=.dreg n l:=by
    simp only [R9] at hc
    unfold Ab at hc
    split at hc
    ·cases hc
    ·split at hc
     ·cases hc;exact⟨_,_,rfl⟩
     ·cases hc
   obtain⟨n,l,rfl⟩:=hform
   exact fun env m md=>rfl
  | false=>
   have hc0:=hc
   simp only [R9] at hc
   split at hc
   ·rename_i insts hi
    cases hc
    cases hr:Bw insts with
    | false=>
     refine V9 hcf fuel hdraw hc0 ht ?_
     intro env m md
     rw [dEv,hr]
    | true=>
     intro Q env m md ι w a c₀ cs u outs hm hen hnt hdef hmd hrel hv hQ
     rw [dEv,hr] at hv
     have hv:bnd (wD insts cf [] env m md) (fun r=>some [⟨⟨.normal,r.1.env,r.1.m,[],none⟩,r.2⟩])=some outs:=hv
     obtain⟨os,hos,hk⟩:=U8 hv
     refine wpSIn_region (Ay (gQ ht) hm _ [] insts hi [] env md u a os hnt (St.start hm hen) hmd hrel hos ?_)
     intro r hr' u' a' e1 e2 e3 e4 e5 e6
     obtain⟨rs,hrs,hsub⟩:=hk r hr'
     cases hrs
     obtain⟨⟨env₁,m₁,px₁,mk₁⟩,md₁⟩:=r
     obtain rfl:m₁=m:=e1
     exact hQ _ (hsub _ (List.mem_singleton.2 rfl)) ι w a' u' (Step.refl hm) e2 e4 ⟨by rw [e3,hdef];rfl,fun _ h=>by cases h⟩ (V5 rfl) e5 e6
   ·cases hc
 | seq x y ihx ihy=>
  intro ac hc ht Q env m md ι w a c₀ cs u outs hm hen hnt hdef hmd hrel hv hQ
  simp only [tmpsIn,Bool.and_eq_true] at ht
  simp only [R9] at hc
  split at hc
  ·rename_i cx cy hx hy
   cases hc
   rw [dEv] at hv
   obtain⟨os,hos,hk⟩:=U8 hv
   refine wpSIn_seq (ihx cx hx ht.1 _ env m md ι w a c₀ cs u os hm hen hnt hdef hmd hrel hos ?_)
   rintro⟨⟨x₀,env₀,m₀,k₀,pv₀⟩,md₀⟩ ho ι' w' a' u' hst hen' hsz hmk' hpv hmd' hrel'
   obtain⟨os',hos',hsub⟩:=hk _ ho
   cases x₀ with
   | normal=>
    obtain rfl:pv₀=none:=fD hpv (by intro e;cases e)
    cases k₀ with
    | cons=>cases hos'
    | nil=>
     have hos':dEv cy cf fuel env₀ m₀ md₀=some os':=hos'
     refine ihy cy hy ht.2 Q env₀ m₀ md₀ ι' w' a' c₀ cs u' os' hst.rm hen' (by rw [hsz];exact hnt) hmk'.1 hmd' hrel' hos' ?_
     intro r hr ι'' w'' a'' u'' hst' hen'' hsz' hmk'' hpv' hmd'' hrel''
     exact hQ r (hsub _ hr) ι'' w'' a'' u'' (hst.trans hst') hen'' (hsz'.trans hsz) hmk'' hpv' hmd'' hrel''
   | exit id=>
    obtain rfl:pv₀=none:=fD hpv (by intro e;cases e)
    cases hos'
    exact hQ _ (hsub _ (List.mem_singleton.2 rfl)) ι' w' a' u' hst hen' hsz hmk' hpv hmd' hrel'
   | ret=>
    cases hos'
    have:=hQ _ (hsub _ (List.mem_singleton.2 rfl)) ι' w' a' u' hst hen' hsz hmk' hpv hmd' hrel'
    cases pv₀ <;> exact this
  ·cases hc
 | cond c x y ihx ihy=>
  intro ac hc ht Q env m md ι w a c₀ cs u outs hm hen hnt hdef hmd hrel hv hQ
  simp only [tmpsIn,Bool.and_eq_true] at ht
  simp only [R9] at hc
  split at hc
  ·rename_i z cx cy hz hx hy
   cases hc
   rw [dEv] at hv
   obtain⟨t,h1,hv⟩:=jl hv
   obtain⟨e1,_⟩:=H6 (St.start hm hen) hz
   refine wpSIn_cond (t:=t) (by rw [e1,h1];rfl) ?_
   cases t with
   | true=>exact ihx cx hx ht.1 Q env m md ι w a c₀ cs u outs hm hen hnt hdef hmd hrel hv hQ
   | false=>exact ihy cy hy ht.2 Q env m md ι w a c₀ cs u outs hm hen hnt hdef hmd hrel hv hQ
  ·cases hc
 | skip=>intro ac hc ht;simp only [R9,Option.some.injEq] at hc;subst hc;exact V9 hcf fuel hdraw rfl ht fun _ _ _=>rfl
 | exit id=>intro ac hc ht;simp only [R9,Option.some.injEq] at hc;subst hc;exact V9 hcf fuel hdraw rfl ht fun _ _ _=>rfl
 | ret=>intro ac hc ht;simp only [R9,Option.some.injEq] at hc;subst hc;exact V9 hcf fuel hdraw rfl ht fun _ _ _=>rfl
 | block id x _=>
  intro ac hc ht
  have hform:∃y,ac=.block id y:=by
   simp only [R9] at hc
   split at hc
   ·cases hc;exact⟨_,rfl⟩
   ·cases hc
  obtain⟨y,rfl⟩:=hform
  exact V9 hcf fuel hdraw hc ht fun _ _ _=>rfl
 | loop x _=>
  intro ac hc ht
  have hform:∃y,ac=.loop y:=by
   simp only [R9] at hc
   split at hc
   ·cases hc;exact⟨_,rfl⟩
   ·cases hc
  obtain⟨y,rfl⟩:=hform
  exact V9 hcf fuel hdraw hc ht fun _ _ _=>rfl
 | rangeFunc g ps x y _ _=>
  intro ac hc ht
  have hform:∃a b c d,ac=.rangeFunc a b c d:=by
   simp only [R9] at hc
   split at hc
   ·cases hc;exact⟨_,_,_,_,rfl⟩
   ·cases hc
  obtain⟨_,_,_,_,rfl⟩:=hform
  exact V9 hcf fuel hdraw hc ht fun _ _ _=>rfl
 | scope x ihx=>intro ac hc;simp only [R9] at hc;cases hc
 | label l=>intro ac hc;simp only [R9] at hc;cases hc
 | goto l=>intro ac hc;simp only [R9] at hc;cases hc
 | refuse s=>intro ac hc;simp only [R9] at hc;cases hc
theorem vN {K:Known}(hfns:∀f sf,K.fns f=some sf→I8 P f sf){cf:K7}(hcf:qU P G cf)(fuel:Nat)(hdraw:∀slots nt r,dV P G slots nt cf r):ab6 P G (Bz K cf fuel):=by
 intro f args md m outs h
 obtain⟨sf,h1,h⟩:=I7 h
 obtain⟨hok,slots,fn,c,ac,rs,g1,g2,g3,g4,g5,g6,g7,e1,e2,e3,e4,e5⟩:=hfns f sf h1
 refine⟨hok,fun {ι w} hm hargs hmd=>?_⟩
 obtain⟨c',h2,h⟩:=I7 h
 obtain rfl:=e5 c' h2
 obtain⟨env,h3,h⟩:=I7 h
 obtain⟨os,hos,hk⟩:=U8 h
 rw [e1,e2] at h3
 obtain⟨q1,q2,q3⟩:=vJ g6 g7 hargs h3
 refine callsDIn_of_wpSIn g1 g2 trivial fun c₀ cs hu=>?_
 have hc₀:({c₀ with mode:=xD ι md}:Frame)=c₀:=by rw [← hu]
 rw [← hc₀]
 refine CB hcf fuel (hdraw slots fn.ntmps none) c c' g3 g5 _ env m md ι w _ c₀ cs (xD ι md) os hm q2 q3 rfl hmd mH.of hos ?_
 rintro⟨⟨x₀,env₀,m₀,k₀,pv₀⟩,md₀⟩ ho ι' w' a' u' hst hen' hsz hmk' hpv hmd' hrel'
 obtain⟨vs,hvs,hsub⟩:=hk _ ho
 have hform:k₀=[]∧pv₀=none∧(∀id,x₀≠.exit id)∧∃l,results sf.results env₀ m₀=some l∧vs=[(m₀,md₀)]:=by
  have hvs:GD sf.results ⟨⟨x₀,env₀,m₀,k₀,pv₀⟩,md₀⟩=some vs:=hvs
  have key:ob (results sf.results env₀ m₀) (fun _=>some [(m₀,md₀)])=some vs→∃l,results sf.results env₀ m₀=some l∧vs=[(m₀,md₀)]:=by
   intro h
   obtain⟨l,hl,h⟩:=I7 h
   cases h
   exact⟨l,hl,rfl⟩
  cases x₀ with
  | exit id=>cases k₀ <;> cases pv₀ <;> cases hvs
  | normal=>
   cases k₀ with
   | cons=>cases pv₀ <;> cases hvs
   | nil=>
    cases pv₀ with
    | some=>cases hvs
    | none=>exact⟨rfl,rfl,(fun id h=>by cases h),key hvs⟩
  | ret=>
   cases k₀ with
   | cons=>cases pv₀ <;> cases hvs
   | nil=>
    cases pv₀ with
    | some=>cases hvs
    | none=>exact⟨rfl,rfl,(fun id h=>by cases h),key hvs⟩
 obtain⟨rfl,rfl,hne,l,hres,rfl⟩:=hform
 rw [e3] at hres
 obtain⟨r1,r2⟩:=lC hst.rm hen' _ rs g4 l hres
 have hd:a'.defers=[]:=hmk'.1
 have hrun:(Go.results fn a'.tmps).run P w'=.ok (G5 ι' (result l)) w':=by
  rw [vI,qY,Array.mapM_eq_mapM_toList]
  simp only [Sem.run_bind,map_eq_pure_bind,bind_assoc,pure_bind]
  rw [r2]
  simp
 have fin:a'.defers=[]∧∃u'',(({c₀ with mode:=u'}:Frame) :: cs)=({({c₀ with mode:=xD ι md}:Frame) with mode:=u''}:Frame) :: cs∧∃v,(Go.results fn a'.tmps).run P w'=.ok v w'∧
   ∃v',Ending.returned v=.returned v'∧∃r∈outs,∃ι',Step P G ι m w ι' r.1 w'∧Ar ι' r.1 r.2∧settle u''=xD ι' r.2:=
  ⟨hd,u',rfl,_,hrun,_,rfl,(m₀,md₀),hsub _ (List.mem_singleton.2 rfl),ι',hst,hmd',hrel'.settle⟩
 cases x₀ with
 | normal=>exact fin
 | ret=>exact fin
 | exit id=>exact absurd rfl (hne id)
end
end Go.AM
namespace Go.AM
open Go
section
variable {P:Program}{ι ι':Inj}{n n':Nm}{r:Nat→Option Nat}
def vO (ι:Inj)(n:Nm)(ι':Inj)(n':Nm)(r:Nat→Option Nat):Prop:=∀i j,r i=some j→n i→n' j∧ι' j=ι i∧n'.cap j=n.cap i
mutual
theorem fV (hr:vO ι n ι' n' r):∀(v v':l8),iw r v=some v'→v.lt n→G5 ι' v'=G5 ι v∧v'.lt n'
 | .undef,v',h,_ | .bool _,v',h,_ | .int _ _,v',h,_ | .str _,v',h,_ | .nilPtr,v',h,_ | .nilSlice,v',h,_ | .nilMap,v',h,_ | .nilFunc,v',h,_ | .nilIface,v',h,_=>by
  simp only [iw,Option.some.injEq] at h;subst h;simp [G5,l8.lt]
 | .ptr i o,v',h,hv=>by
  simp only [iw] at h
  obtain⟨j,h1,h2⟩:=I7 h
  cases h2
  obtain⟨g1,g2,g3⟩:=hr i j h1 hv
  exact⟨by simp [G5,Inj.at,g2],g1⟩
 | .slice i o l c,v',h,hv=>by
  simp only [iw] at h
  obtain⟨j,h1,h2⟩:=I7 h
  cases h2
  obtain⟨g1,g2,g3⟩:=hr i j h1 hv
  exact⟨by simp [G5,Inj.at,g2],g1⟩
 | .sliceU i o l c,v',h,hv=>by
  simp only [iw] at h
  obtain⟨j,h1,h2⟩:=I7 h
  cases h2
  obtain⟨g1,g2,g3⟩:=hr i j h1 hv.1
  exact⟨by simp [G5,Inj.at,g2],g1,hv.2.1,by rw [g3];exact hv.2.2⟩
 | .map i,v',h,hv=>by
  simp only [iw] at h
  obtain⟨j,h1,h2⟩:=I7 h
  cases h2
  obtain⟨g1,g2,g3⟩:=hr i j h1 hv
  exact⟨by simp [G5,g2],g1⟩
 | .func fn a b,v',h,hv=>by
  obtain⟨h1,h2,h3⟩:=hv
  have key:∀v',(ob (pV r a) fun x=>ob (pV r b) fun y=>some (l8.func fn x y))=some v'→(∀l,fn≠.yield l)→G5 ι' v'=G5 ι (.func fn a b)∧v'.lt n':=by
   intro v' h hn
   obtain⟨x,h4,h⟩:=I7 h
   obtain⟨y,h5,h⟩:=I7 h
   cases h
   obtain⟨g1,g2⟩:=bU hr a x h4 h2
   obtain⟨g3,g4⟩:=bU hr b y h5 h3
   have e:dO ι' fn=dO ι fn:=by cases fn <;> first | rfl | exact absurd rfl (hn _)
   refine⟨by simp [G5,g1,g3,e],?_,g2,g4⟩
   cases fn <;> first | trivial | exact absurd rfl (hn _)
  cases fn with
  | yield l=>simp only [iw] at h;cases h
  | func f=>exact key v' (by simpa only [iw] using h) (by simp)
  | method f=>exact key v' (by simpa only [iw] using h) (by simp)
  | methodOf f g=>exact key v' (by simpa only [iw] using h) (by simp)
  | via f g x y=>exact key v' (by simpa only [iw] using h) (by simp)
 | .iface t v,v',h,hv=>by
  simp only [iw] at h
  obtain⟨x,h1,h2⟩:=I7 h
  cases h2
  obtain⟨g1,g2⟩:=fV hr v x h1 hv
  exact⟨by simp [G5,g1],g2⟩
 | .agg l,v',h,hv=>by
  simp only [iw] at h
  obtain⟨x,h1,h2⟩:=I7 h
  cases h2
  obtain⟨g1,g2⟩:=bU hr l x h1 hv
  exact⟨by simp [G5,g1],g2⟩
 | .tuple l,v',h,hv=>by
  simp only [iw] at h
  obtain⟨x,h1,h2⟩:=I7 h
  cases h2
  obtain⟨g1,g2⟩:=bU hr l x h1 hv
  exact⟨by simp [G5,g1],g2⟩
 | .pan v,v',h,hv=>by simp only [l8.lt] at hv
theorem bU (hr:vO ι n ι' n' r):∀(l l':List l8),pV r l=some l'→ltL n l→G8 ι' l'=G8 ι l∧ltL n' l'
 | [],l',h,_=>by simp only [pV,Option.some.injEq] at h;subst h;simp [G8,ltL]
 | v :: l,l',h,hv=>by
  simp only [pV] at h
  obtain⟨x,h1,h⟩:=I7 h
  obtain⟨y,h2,h⟩:=I7 h
  cases h
  obtain⟨g1,g2⟩:=fV hr v x h1 hv.1
  obtain⟨g3,g4⟩:=bU hr l y h2 hv.2
  exact⟨by simp [G8,g1,g3],g2,g4⟩
end
theorem pF (hr:vO ι n ι' n' r):∀(l l':List (List l8)),nJ r l=some l'→(∀x∈l,ltL n x)→l'.length=l.length∧∀(i:Nat) x,l[i]?=some x→∃x',l'[i]?=some x'∧G8 ι' x'=G8 ι x∧ltL n' x'
 | [],l',h,_=>by simp only [nJ,Option.some.injEq] at h;subst h;simp
 | v :: l,l',h,hv=>by
  simp only [nJ] at h
  obtain⟨x,h1,h⟩:=I7 h
  obtain⟨y,h2,h⟩:=I7 h
  cases h
  obtain⟨g1,g2⟩:=bU hr v x h1 (hv v (by simp))
  obtain⟨g3,g4⟩:=pF hr l y h2 (fun x hx=>hv x (by simp [hx]))
  refine⟨by simp [g3],fun i u hu=>?_⟩
  cases i with
  | zero=>simp at hu;subst hu;exact⟨x,rfl,g1,g2⟩
  | succ i=>obtain⟨x',h3,h4⟩:=g4 i u (by simpa using hu);exact⟨x',by simpa using h3,h4⟩
theorem qZ (hr:vO ι n ι' n' r):∀(l l':List (l8×l8)),AZ r l=some l'→(∀e∈l,e.1.lt n∧e.2.lt n)→l'.length=l.length∧(∀k,K5 ι' l' k=K5 ι l k)∧∀e∈l',e.1.lt n'∧e.2.lt n'
 | [],l',h,_=>by simp only [AZ,Option.some.injEq] at h;subst h;simp [K5]
 | e :: l,l',h,hv=>by
  simp only [AZ] at h
  obtain⟨x,h1,h⟩:=I7 h
  obtain⟨y,h2,h⟩:=I7 h
  obtain⟨z,h3,h⟩:=I7 h
  cases h
  obtain⟨g1,g2⟩:=fV hr e.1 x h1 (hv e (by simp)).1
  obtain⟨g3,g4⟩:=fV hr e.2 y h2 (hv e (by simp)).2
  obtain⟨g5,g6,g7⟩:=qZ hr l z h3 (fun x hx=>hv x (by simp [hx]))
  refine⟨by simp [g5],fun k=>by simp [K5,g1,g3,g6],fun u hu=>?_⟩
  rcases List.mem_cons.1 hu with rfl | hu
  ·exact⟨g2,g4⟩
  ·exact g7 u hu
theorem CF {b:Blk}{nb:NB}(h:AY b=some nb):eD b=false:=by
 cases b <;> first | rfl | (simp [AY] at h)
theorem ru (nb:NB):eD (fH nb)=false:=by cases nb <;> rfl
theorem rz {r:Nat→Option Nat}{b:Blk}{nb nb':NB}(h:AY b=some nb)(h':pW r nb=some nb'):U3 (fH nb')=U3 b:=by
 cases b <;> simp only [AY,Option.some.injEq,reduceCtorEq] at h
 ·subst h;simp only [pW,Option.some.injEq] at h';subst h';rfl
 ·obtain⟨l,_,h⟩:=I7 h;cases h
  simp only [pW] at h'
  obtain⟨x,_,h'⟩:=I7 h';cases h';rfl
 ·subst h;simp only [pW] at h'
  obtain⟨x,_,h'⟩:=I7 h';cases h';rfl
 ·subst h;simp only [pW] at h'
  obtain⟨x,_,h'⟩:=I7 h';cases h';rfl
theorem xM (hr:vO ι n ι' n' r){h:Array Obj}{l:Loc}{b:Blk}{nb nb':NB}(hb:bO P ι n h l b)(hn:AY b=some nb)(hnb:pW r nb=some nb'):bO P ι' n' h l (fH nb'):=by
 cases b <;> simp only [AY,Option.some.injEq,reduceCtorEq] at hn
 ·subst hn;simp only [pW,Option.some.injEq] at hnb;subst hnb;exact trivial
 ·rename_i rs k rows
  obtain⟨rl,h1,hn⟩:=I7 hn
  cases hn
  simp only [pW] at hnb
  obtain⟨rl',h2,hnb⟩:=I7 hnb
  cases hnb
  obtain⟨c,e,fz,b1,b2,⟨b3,N,b4,b5⟩,b6⟩:=hb
  obtain⟨s1,s2⟩:=T.Ac _ _ _ _ h1
  have hrow:∀i x,rl[i]?=some x→i < k∧rows.get i=some x:=fun i x hx=>by
   have hi:i < k:=by have:=(List.getElem?_eq_some_iff.1 hx).1;omega
   have:=s2 i hi
   rw [Nat.zero_add,hx] at this
   exact⟨hi,this⟩
  have hlt:∀x∈rl,ltL n x:=fun x hx=>by
   obtain⟨i,hi⟩:=List.getElem?_of_mem hx
   obtain⟨g1,g2⟩:=hrow i x hi
   obtain⟨row,q1,q2,q3,q4⟩:=b6 i g1
   rw [g2] at q1;cases q1;exact q3
  obtain⟨g1,g2⟩:=pF hr rl rl' h2 hlt
  refine⟨c,e,fz,b1,b2,⟨by rw [O4,g1,s1];exact b3,rl'.length,(by rw [O4];exact Nat.le_refl _),T.fK rl'⟩,fun i hi=>?_⟩
  rw [O4,g1,s1] at hi
  have hx:rl[i]?=some (rl[i]'(by omega)):=List.getElem?_eq_getElem (by omega)
  obtain⟨x',q1,q2,q3⟩:=g2 i _ hx
  obtain⟨_,g4⟩:=hrow i _ hx
  obtain⟨row,p1,p2,p3,p4⟩:=b6 i hi
  rw [g4] at p1;cases p1
  have hlen:x'.length=rs:=by
   have:=congrArg List.length q2
   simp only [P8] at this
   omega
  refine⟨x',by rw [T.bN];exact q1,hlen,q3,fun j hj=>?_⟩
  rw [p4 j hj,← U0,← U0,q2]
 ·subst hn
  simp only [pW] at hnb
  obtain⟨es',h2,hnb⟩:=I7 hnb
  cases hnb
  obtain⟨b1,b2⟩:=hb
  obtain⟨g1,g2,g3⟩:=qZ hr _ _ h2 b2
  exact⟨by rw [g2,g1];exact b1,g3⟩
 ·subst hn
  simp only [pW] at hnb
  obtain⟨q,h2,hnb⟩:=I7 hnb
  cases hnb
  obtain⟨b1,b2⟩:=hb
  obtain⟨g1,g2,_⟩:=hr _ _ h2 b1
  exact⟨g1,by rw [g2];exact b2⟩
mutual
theorem jc {r1 r2:Nat→Option Nat}:∀(v u t:l8),iw r1 v=some u→iw r2 u=some t→iw (fun i=>ob (r1 i) r2) v=some t
 | .undef,u,t,h,h' | .bool _,u,t,h,h' | .int _ _,u,t,h,h' | .str _,u,t,h,h' | .nilPtr,u,t,h,h' | .nilSlice,u,t,h,h' | .nilMap,u,t,h,h' | .nilFunc,u,t,h,h' | .nilIface,u,t,h,h'=>by
  simp only [iw,Option.some.injEq] at h;subst h;simpa only [iw] using h'
 | .ptr i o,u,t,h,h' | .slice i o _ _,u,t,h,h' | .sliceU i o _ _,u,t,h,h' | .map i,u,t,h,h'=>by
  simp only [iw] at h
  obtain⟨j,h1,h2⟩:=I7 h
  cases h2
  simp only [iw] at h' ⊢
  obtain⟨k,h3,h4⟩:=I7 h'
  rw [h1,Q7,h3];exact h4
 | .func fn a b,u,t,h,h'=>by
  cases fn with
  | yield l=>simp only [iw] at h;cases h
  | _=>
   simp only [iw] at h
   obtain⟨x,h1,h⟩:=I7 h
   obtain⟨y,h2,h⟩:=I7 h
   cases h
   simp only [iw] at h' ⊢
   obtain⟨x',h3,h'⟩:=I7 h'
   obtain⟨y',h4,h'⟩:=I7 h'
   rw [jd a x x' h1 h3,Q7,jd b y y' h2 h4];exact h'
 | .iface ty v,u,t,h,h'=>by
  simp only [iw] at h
  obtain⟨x,h1,h⟩:=I7 h
  cases h
  simp only [iw] at h' ⊢
  obtain⟨x',h3,h'⟩:=I7 h'
  rw [jc v x x' h1 h3];exact h'
 | .pan v,u,t,h,h'=>by simp only [iw] at h;cases h
 | .agg l,u,t,h,h' | .tuple l,u,t,h,h'=>by
  simp only [iw] at h
  obtain⟨x,h1,h⟩:=I7 h
  cases h
  simp only [iw] at h' ⊢
  obtain⟨x',h3,h'⟩:=I7 h'
  rw [jd l x x' h1 h3];exact h'
theorem jd {r1 r2:Nat→Option Nat}:∀(v u t:List l8),pV r1 v=some u→pV r2 u=some t→pV (fun i=>ob (r1 i) r2) v=some t
 | [],u,t,h,h'=>by simp only [pV,Option.some.injEq] at h;subst h;simpa only [pV] using h'
 | v :: l,u,t,h,h'=>by
  simp only [pV] at h
  obtain⟨x,h1,h⟩:=I7 h
  obtain⟨y,h2,h⟩:=I7 h
  cases h
  simp only [pV] at h' ⊢
  obtain⟨x',h3,h'⟩:=I7 h'
  obtain⟨y',h4,h'⟩:=I7 h'
  rw [jc v x x' h1 h3,Q7,jd l y y' h2 h4];exact h'
end
theorem rA {r1 r2:Nat→Option Nat}:∀(v u t:List (List l8)),nJ r1 v=some u→nJ r2 u=some t→nJ (fun i=>ob (r1 i) r2) v=some t
 | [],u,t,h,h'=>by simp only [nJ,Option.some.injEq] at h;subst h;simpa only [nJ] using h'
 | v :: l,u,t,h,h'=>by
  simp only [nJ] at h
  obtain⟨x,h1,h⟩:=I7 h
  obtain⟨y,h2,h⟩:=I7 h
  cases h
  simp only [nJ] at h' ⊢
  obtain⟨x',h3,h'⟩:=I7 h'
  obtain⟨y',h4,h'⟩:=I7 h'
  rw [jd v x x' h1 h3,Q7,rA l y y' h2 h4];exact h'
theorem vP {r1 r2:Nat→Option Nat}:∀(v u t:List (l8×l8)),AZ r1 v=some u→AZ r2 u=some t→AZ (fun i=>ob (r1 i) r2) v=some t
 | [],u,t,h,h'=>by simp only [AZ,Option.some.injEq] at h;subst h;simpa only [AZ] using h'
 | e :: l,u,t,h,h'=>by
  simp only [AZ] at h
  obtain⟨x,h1,h⟩:=I7 h
  obtain⟨y,h2,h⟩:=I7 h
  obtain⟨z,h3,h⟩:=I7 h
  cases h
  simp only [AZ] at h' ⊢
  obtain⟨x',h4,h'⟩:=I7 h'
  obtain⟨y',h5,h'⟩:=I7 h'
  obtain⟨z',h6,h'⟩:=I7 h'
  rw [jc e.1 x x' h1 h4,Q7,jc e.2 y y' h2 h5,Q7,vP l z z' h3 h6];exact h'
theorem CG {r1 r2:Nat→Option Nat}{v u t:NB}(h:pW r1 v=some u)(h':pW r2 u=some t):pW (fun i=>ob (r1 i) r2) v=some t:=by
 cases v <;> simp only [pW] at h
 ·obtain⟨x,h1,h⟩:=I7 h
  cases h
  simp only [pW] at h' ⊢
  obtain⟨x',h3,h'⟩:=I7 h'
  rw [rA _ x x' h1 h3];exact h'
 ·obtain⟨x,h1,h⟩:=I7 h
  cases h
  simp only [pW] at h' ⊢
  obtain⟨x',h3,h'⟩:=I7 h'
  rw [vP _ x x' h1 h3];exact h'
 ·obtain⟨x,h1,h⟩:=I7 h
  cases h
  simp only [pW] at h' ⊢
  obtain⟨x',h3,h'⟩:=I7 h'
  rw [h1,Q7,h3];exact h'
 ·cases h;exact h'
theorem lG {r:Nat→Option Nat}:∀(l l':List NB),uI r l=some l'→l'.length=l.length∧∀(i:Nat) x,l'[i]?=some x→∃y,l[i]?=some y∧pW r y=some x
 | [],l',h=>by simp only [uI,Option.some.injEq] at h;subst h;simp
 | v :: l,l',h=>by
  simp only [uI] at h
  obtain⟨x,h1,h⟩:=I7 h
  obtain⟨y,h2,h⟩:=I7 h
  cases h
  obtain⟨g1,g2⟩:=lG l y h2
  refine⟨by simp [g1],fun i u hu=>?_⟩
  cases i with
  | zero=>simp at hu;subst hu;exact⟨v,rfl,h1⟩
  | succ i=>obtain⟨z,h3,h4⟩:=g2 i u (by simpa using hu);exact⟨z,by simpa using h3,h4⟩
mutual
theorem tH (lo:Nat):∀(v:l8),∀i∈EA lo v,lo≤i
 | .ptr i _,j,h | .slice i _ _ _,j,h | .sliceU i _ _ _,j,h | .map i,j,h=>by
  simp only [EA] at h
  cases hb:Nat.ble lo i with
  | true=>rw [hb] at h;obtain rfl:=List.mem_singleton.1 h;exact Nat.le_of_ble_eq_true hb
  | false=>rw [hb] at h;cases h
 | .func fn a b,j,h=>by
  simp only [EA] at h
  rcases List.mem_append.1 h with h | h
  ·exact mI lo a j h
  ·exact mI lo b j h
 | .iface _ v,j,h=>by simp only [EA] at h;exact tH lo v j h
 | .agg l,j,h | .tuple l,j,h=>by simp only [EA] at h;exact mI lo l j h
 | .undef,j,h | .bool _,j,h | .int _ _,j,h | .str _,j,h | .nilPtr,j,h | .nilSlice,j,h | .nilMap,j,h | .nilFunc,j,h | .nilIface,j,h | .pan _,j,h=>by simp only [EA] at h;cases h
theorem mI (lo:Nat):∀(l:List l8),∀i∈EB lo l,lo≤i
 | [],j,h=>by simp only [EB] at h;cases h
 | v :: l,j,h=>by
  simp only [EB] at h
  rcases List.mem_append.1 h with h | h
  ·exact tH lo v j h
  ·exact mI lo l j h
end
theorem zJ (lo:Nat):∀(l:List (List l8)),∀i∈Bt lo l,lo≤i
 | [],j,h=>by simp only [Bt] at h;cases h
 | v :: l,j,h=>by
  simp only [Bt] at h
  rcases List.mem_append.1 h with h | h
  ·exact mI lo v j h
  ·exact zJ lo l j h
theorem CJ (lo:Nat):∀(l:List (l8×l8)),∀i∈QN lo l,lo≤i
 | [],j,h=>by simp only [QN] at h;cases h
 | e :: l,j,h=>by
  simp only [QN] at h
  rcases List.mem_append.1 h with h | h
  ·exact tH lo _ j h
  ·rcases List.mem_append.1 h with h | h
   ·exact tH lo _ j h
   ·exact CJ lo l j h
theorem JO (lo:Nat)(b:NB):∀i∈aaZ lo b,lo≤i:=by
 intro i h
 cases b with
 | cells rs rows=>exact zJ lo rows i h
 | map es=>exact CJ lo es i h
 | tail p=>
  simp only [aaZ] at h
  cases hb:Nat.ble lo p with
  | true=>rw [hb] at h;obtain rfl:=List.mem_singleton.1 h;exact Nat.le_of_ble_eq_true hb
  | false=>rw [hb] at h;cases h
 | dead=>cases h
def Good (m:Mem)(lo:Nat)(l:List (Nat×NB)):Prop:=(∀p∈l,lo≤p.1∧∃b,m.get p.1=some b∧AY b=some p.2)∧(l.map (·.1)).Nodup
theorem rC (n:Nat):∀l:List (Nat×NB),Bu n l=true∨n∉l.map (·.1)
 | []=>.inr (by simp)
 | x :: l=>by
  show bi (Nat.beq x.1 n) true (Bu n l)=true∨_
  cases hb:Nat.beq x.1 n with
  | true=>exact .inl rfl
  | false=>
   rcases rC n l with h | h
   ·exact .inl h
   ·refine .inr fun hm=>?_
    rcases List.mem_cons.1 (by simpa using hm:n∈x.1 :: l.map (·.1)) with h1 | h1
    ·rw [h1,Nat.beq_refl] at hb;cases hb
    ·exact h h1
theorem Az {m:Mem}{lo:Nat}:∀(k:Nat) (work:List Nat) (seen out:List (Nat×NB)),(∀i∈work,lo≤i)→Good m lo seen→reach m lo k work seen=some out→Good m lo out:=by
 intro k
 induction k with
 | zero=>intro work seen out _ _ h;cases h
 | succ k ih=>
  intro work seen out hw hs h
  cases work with
  | nil=>
   have h:some seen.reverse=some out:=h
   cases h
   exact⟨fun p hp=>hs.1 p (List.mem_reverse.1 hp),by rw [List.map_reverse];exact List.pairwise_reverse.2 (hs.2.imp fun h e=>h e.symm)⟩
  | cons i work=>
   have h:bi (Bu i seen) (reach m lo k work seen) (ob (m.get i) fun b=>ob (AY b) fun nb=>reach m lo k (aaZ lo nb ++ work) ((i,nb) :: seen))=some out:=h
   rcases rC i seen with h1 | h1
   ·rw [h1] at h;exact ih work seen out (fun j hj=>hw j (by simp [hj])) hs h
   ·cases hb:Bu i seen with
    | true=>rw [hb] at h;exact ih work seen out (fun j hj=>hw j (by simp [hj])) hs h
    | false=>
     rw [hb] at h
     obtain⟨b,h2,h⟩:=I7 h
     obtain⟨nb,h3,h⟩:=I7 h
     refine ih _ _ out (fun j hj=>?_) ⟨fun p hp=>?_,?_⟩ h
     ·rcases List.mem_append.1 hj with hj | hj
      ·exact JO lo nb j hj
      ·exact hw j (by simp [hj])
     ·rcases List.mem_cons.1 hp with rfl | hp
      ·exact⟨hw i (by simp),b,h2,h3⟩
      ·exact hs.1 p hp
     ·rw [List.map_cons];exact List.nodup_cons.2 ⟨h1,hs.2⟩
theorem nD (i:Nat):∀(l:List Nat) (k j:Nat),placeOf i l k=some j→k≤j∧l[j - k]?=some i
 | [],k,j,h=>by cases h
 | x :: l,k,j,h=>by
  have h:bi (Nat.beq x i) (some k) (placeOf i l (k + 1))=some j:=h
  cases hb:Nat.beq x i with
  | true=>rw [hb] at h;cases h;rw [Nat.eq_of_beq_eq_true hb];simp
  | false=>
   rw [hb] at h
   obtain⟨h1,h2⟩:=nD i l (k + 1) j h
   exact⟨by omega,by rw [show j - k=(j - (k + 1)) + 1 from by omega];simpa using h2⟩
theorem vQ {lo i j:Nat}{ids:List Nat}(h:Bv lo ids i=some j):(i < lo∧j=i)∨(lo≤i∧lo≤j∧ids[j - lo]?=some i):=by
 unfold Bv at h
 cases hb:Nat.ble lo i with
 | true=>
  rw [hb] at h
  obtain⟨h1,h2⟩:=nD i ids lo j h
  exact .inr ⟨Nat.le_of_ble_eq_true hb,h1,h2⟩
 | false=>
  rw [hb] at h
  have h:some i=some j:=h
  cases h
  exact .inl ⟨Nat.lt_of_not_le (vo hb),rfl⟩
theorem je {m:Mem}{lo:Nat}{vs:List l8}{c:CO}(h:nZ lo vs m=some c):∃seen,Good m lo seen∧c.ids=seen.map (·.1)∧pV (Bv lo c.ids) vs=some c.vs∧uI (Bv lo c.ids) (seen.map (·.2))=some c.bs:=by
 obtain⟨seen,h1,h⟩:=I7 h
 obtain⟨xs,h2,h⟩:=I7 h
 obtain⟨bs,h3,h⟩:=I7 h
 cases h
 exact⟨seen,Az _ _ _ _ (mI lo vs) ⟨(fun p (hp:p∈([]:List (Nat×NB)))=>by cases hp),(by simp:(([]:List (Nat×NB)).map (·.1)).Nodup)⟩ h1,rfl,h2,h3⟩
theorem xO (b:NB)(bs:List NB)(m:Mem):layAll (b :: bs) m=layAll bs (m.new (fH b)):=rfl
theorem gU:∀(bs:List NB) (m:Mem),T.Ok m.t m.next→T.Ok (layAll bs m).t (layAll bs m).next∧(layAll bs m).next=m.next + bs.length∧(layAll bs m).lim=m.lim∧
  ∀i,(layAll bs m).get i=if i < m.next then m.get i else (bs[i - m.next]?).map fH
 | [],m,h=>by
  refine⟨h,rfl,rfl,fun i=>?_⟩
  show m.get i=_
  split
  ·rfl
  ·rename_i hi
   cases hg:m.get i with
   | none=>simp
   | some x=>exact absurd (Mem.K6 h hg) hi
 | b :: bs,m,h=>by
  obtain⟨h1,h2,h3,h4⟩:=gU bs (m.new (fH b)) (h.push _)
  rw [xO]
  refine⟨h1,by rw [h2];simp;omega,h3,fun i=>?_⟩
  rw [h4,Mem.zo,Mem.aI h]
  by_cases hi:i < m.next
  ·rw [if_pos (by omega),if_neg (by omega),if_pos hi]
  ·by_cases he:i=m.next
   ·subst he;rw [if_pos (by omega),if_pos rfl,if_neg (by omega)];simp
   ·rw [if_neg (by omega),if_neg hi,show i - m.next=(i - (m.next + 1)) + 1 from by omega];simp
end
end Go.AM
namespace Go.AM
open Go
section
variable {P:Program}{G:Mem}{ι:Inj}{m:Mem}{w:World}
structure zK (G:Mem)(gbs:List NB):Prop where
 ok:T.Ok G.t G.next
 len:gbs.length=G.next
 get:∀i,i < G.next→G.get i=(gbs[i]?).map fH
 shut:∀nb∈gbs,pW (fun i=>bi (Nat.blt i G.next) (some i) none) nb=some nb
noncomputable abbrev Y3 (G:Mem)(bs:List NB):Mem:=(layAll bs G).shut
def qz (P:Program)(G:Mem)(f:FuncId)(args:List l8)(bs:List NB)(a:Ans):Prop:=
 ∀(ι:Inj) (w:World),RM P G ι (Y3 G bs) w.heap→ltL ((Y3 G bs).nm ι) args→
  CallsIn Fence.wide 0 P f (G8 ι args).toArray w fun e w'=>∃ι' r,Step P G ι (Y3 G bs) w ι' r.m w'∧r.v.lt (r.m.nm ι')∧e=.returned (G5 ι' r.v)∧Js (layAll bs G).next r=some a
theorem pG:∀a b:List (List l8),qG a b=true→a=b
 | [],[],_=>rfl
 | [],_ :: _,h=>by simp only [qG] at h;cases h
 | _ :: _,[],h=>by simp only [qG] at h;cases h
 | x :: a,y :: b,h=>by
  simp only [qG] at h
  obtain⟨h1,h2⟩:=bK h
  rw [dW (bT 100) _ _ h1,pG a b h2]
theorem rD:∀a b:List (l8×l8),Aa a b=true→a=b
 | [],[],_=>rfl
 | [],_ :: _,h=>by simp only [Aa] at h;cases h
 | _ :: _,[],h=>by simp only [Aa] at h;cases h
 | x :: a,y :: b,h=>by
  simp only [Aa] at h
  obtain⟨h1,h2⟩:=bK h
  obtain⟨h2,h3⟩:=bK h2
  have e1:=bT 100 _ _ h1
  have e2:=bT 100 _ _ h2
  obtain⟨x1,x2⟩:=x
  obtain⟨y1,y2⟩:=y
  have e1:x1=y1:=e1
  have e2:x2=y2:=e2
  rw [e1,e2,rD a b h3]
theorem AA:∀a b:NB,V6 a b=true→a=b:=by
 intro a b h
 cases a <;> cases b <;> simp only [V6] at h <;> first | (cases h;done) | skip
 ·obtain⟨h1,h2⟩:=bK h
  rw [Nat.eq_of_beq_eq_true h1,pG _ _ h2]
 ·rw [rD _ _ h]
 ·rw [Nat.eq_of_beq_eq_true h]
 ·rfl
theorem gV:∀a b:List NB,fI a b=true→a=b
 | [],[],_=>rfl
 | [],_ :: _,h=>by simp only [fI] at h;cases h
 | _ :: _,[],h=>by simp only [fI] at h;cases h
 | x :: a,y :: b,h=>by
  simp only [fI] at h
  obtain⟨h1,h2⟩:=bK h
  rw [AA _ _ h1,gV a b h2]
theorem ko {lo:Nat}:∀(l:List VM) (a:Ans),zl lo l=some a→∀r∈l,Js lo r=some a
 | [],a,h,r,hr=>by cases hr
 | [x],a,h,r,hr=>by
  obtain rfl:=List.mem_singleton.1 hr
  obtain⟨b,h1,h2⟩:=I7 h
  have h2:some b=some a:=h2
  cases h2;exact h1
 | x :: y :: l,a,h,r,hr=>by
  obtain⟨b,h1,h2⟩:=I7 h
  have h2:(ob (zl lo (y :: l)) fun c=>bi (dz 100 b.v c.v) (bi (fI b.bs c.bs) (some b) none) none)=some a:=h2
  obtain⟨c,h3,h2⟩:=I7 h2
  obtain⟨h4,h2⟩:=J8 h2
  obtain⟨h5,h2⟩:=J8 h2
  have h2:some b=some a:=h2
  cases h2
  rcases List.mem_cons.1 hr with rfl | hr
  ·exact h1
  ·have:=ko (y :: l) c h3 r hr
   rw [this]
   have e1:=bT 100 _ _ h4
   have e2:=gV _ _ h5
   obtain⟨av,ab⟩:=a
   obtain⟨cv,cb⟩:=c
   have e1:av=cv:=e1
   have e2:ab=cb:=e2
   rw [e1,e2]
theorem AB {cf:K7}(hcf:qU P G cf){dcf:gZ}(hdc:ab6 P G dcf)(hmix:P.follows .mixedOrders=true)(fuel:Nat){f:FuncId}{sf:SFn}(hf:I8 P f sf){args:List l8}{bs:List NB}{a:Ans}
  (h:(ob (D8 cf dcf fuel sf args (Y3 G bs)) fun l=>zl (layAll bs G).next l)=some a):qz P G f args bs a:=by
 intro ι w hm hargs
 obtain⟨l,h1,h2⟩:=I7 h
 refine (zD hcf hdc fuel (fun slots nt r=>fU hmix hcf slots nt r) hf h1 hm hargs).mono ?_
 rintro e w' (⟨v,rfl,r,hr,ι',g1,g2,rfl⟩ | ⟨r,hr,x,ι',hx,_⟩)
 ·exact⟨ι',r,g1,g2,rfl,ko l a h2 r hr⟩
 ·exfalso
  have h3:=ko l a h2 r hr
  obtain⟨co,hco,_⟩:=I7 h3
  obtain⟨seen,_,_,h4,_⟩:=je hco
  rw [hx] at h4
  simp only [pV] at h4
  obtain⟨y,h5,_⟩:=I7 h4
  simp only [iw] at h5
  cases h5
theorem vR {α:Type}(l:List α):(T.ofList l).slice l.length 0=some l:=by
 have key:∀(k i:Nat),i + k=l.length→(T.ofList l).slice k i=some (l.drop i):=by
  intro k
  induction k with
  | zero=>intro i h;rw [T.qI,List.drop_of_length_le (by omega)]
  | succ k ih=>
   intro i h
   have hi:i < l.length:=by omega
   rw [T.qJ,T.bN,List.getElem?_eq_getElem hi,Q7,ih (i + 1) (by omega),Q7,List.getElem_cons_drop]
 exact key l.length 0 (by omega)
theorem AJ (nb:NB):AY (fH nb)=some nb:=by
 cases nb with
 | cells rs rows=>
  show (ob ((T.ofList rows).slice (len' rows) 0) fun l=>some (NB.cells rs l))=_
  rw [O4,vR];rfl
 | map es=>rfl
 | tail p=>rfl
 | dead=>rfl
def aL (g:Nat)(ι:Inj)(ids:List Nat):Inj:=fun i=>if i < g then ι i else ι (ids.getD (i - g) 0)
theorem JQ (hB:∃gbs,zK G gbs)(hm:RM P G ι m w.heap){vs:List l8}{c:CO}(hc:nZ G.next vs m=some c)(hvs:ltL (m.nm ι) vs):
  RM P G (aL G.next ι c.ids) (Y3 G c.bs) w.heap∧ltL ((Y3 G c.bs).nm (aL G.next ι c.ids)) c.vs∧G8 (aL G.next ι c.ids) c.vs=G8 ι vs∧c.bs.length=c.ids.length∧
   (∀(k i:Nat),c.ids[k]?=some i→G.next≤i∧m.has i)∧(∀i,G.next≤i→i < (Y3 G c.bs).next→∃j,c.ids[i - G.next]?=some j):=by
 obtain⟨gbs,hB⟩:=hB
 obtain⟨seen,⟨hg1,hg2⟩,hids,h3,h4⟩:=je hc
 obtain⟨l1,l2,l3,l4⟩:=gU c.bs G hB.ok
 obtain⟨b1,b2⟩:=lG _ _ h4
 have hlen:c.bs.length=c.ids.length:=by rw [b1,hids];simp
 have hseen:∀(k i:Nat),c.ids[k]?=some i→G.next≤i∧∃b nb nb',m.get i=some b∧AY b=some nb∧c.bs[k]?=some nb'∧pW (Bv G.next c.ids) nb=some nb':=by
  intro k i hk
  rw [hids,List.getElem?_map] at hk
  cases hp:seen[k]? with
  | none=>rw [hp] at hk;cases hk
  | some p=>
   rw [hp] at hk
   have hk:p.1=i:=Option.some.inj hk
   obtain⟨q1,b,q2,q3⟩:=hg1 p (List.mem_of_getElem? hp)
   rw [hk] at q1 q2
   have hkl:k < c.bs.length:=by rw [hlen,hids,List.length_map];exact (List.getElem?_eq_some_iff.1 hp).1
   obtain⟨y,q4,q5⟩:=b2 k _ (List.getElem?_eq_getElem hkl)
   rw [List.getElem?_map,hp] at q4
   have q4:p.2=y:=Option.some.inj q4
   rw [← q4] at q5
   exact⟨q1,b,p.2,_,q2,q3,List.getElem?_eq_getElem hkl,q5⟩
 have hget:∀i,(Y3 G c.bs).get i=if i < G.next then G.get i else (c.bs[i - G.next]?).map fH:=l4
 have hnext:(Y3 G c.bs).next=G.next + c.bs.length:=l2
 have hbase:∀i,i < G.next→m.get i=G.get i:=hm.base
 have hin:∀k i,c.ids[k]?=some i→aL G.next ι c.ids (G.next + k)=ι i:=by
  intro k i hk
  unfold aL
  rw [if_neg (by omega),show G.next + k - G.next=k from by omega,List.getD_eq_getElem?_getD,hk];rfl
 have hlo:∀i,i < G.next→aL G.next ι c.ids i=ι i:=fun i hi=>if_pos hi
 have hr:vO ι (m.nm ι) (aL G.next ι c.ids) ((Y3 G c.bs).nm (aL G.next ι c.ids)) (Bv G.next c.ids):=by
  intro i j hij ⟨y,hy,hyv⟩
  rcases vQ hij with⟨h1,rfl⟩ | ⟨h1,h2,h3⟩
  ·refine⟨⟨y,?_,hyv⟩,hlo _ h1,congrArg Loc.cap (hlo _ h1)⟩
   rw [hget,if_pos h1,← hbase _ h1];exact hy
  ·have e:=hin (j - G.next) i h3
   rw [show G.next + (j - G.next)=j from by omega] at e
   obtain⟨_,_,_,nb',_,_,q,_⟩:=hseen (j - G.next) i h3
   refine⟨⟨fH nb',?_,ru nb'⟩,e,congrArg Loc.cap e⟩
   rw [hget,if_neg (by omega),q];rfl
 have hr0:vO ι (m.nm ι) (aL G.next ι c.ids) ((Y3 G c.bs).nm (aL G.next ι c.ids)) (fun i=>bi (Nat.blt i G.next) (some i) none):=by
  intro i j hij ⟨y,hy,hyv⟩
  have hij:bi (Nat.blt i G.next) (some i) none=some j:=hij
  obtain⟨h1,h2⟩:=J8 hij
  cases h2
  have h1:i < G.next:=Eq.mp Nat.blt_eq h1
  refine⟨⟨y,?_,hyv⟩,hlo _ h1,congrArg Loc.cap (hlo _ h1)⟩
  rw [hget,if_pos h1,← hbase _ h1];exact hy
 obtain⟨v1,v2⟩:=bU hr vs c.vs h3 hvs
 have hspot:∀i x,(Y3 G c.bs).get i=some x→U3 x=true→(aL G.next ι c.ids i).spot=none:=by
  intro i b hb hlv
  rw [hget] at hb
  split at hb
  ·rename_i hi
   rw [hlo i hi]
   exact hm.spot i b (by rw [hbase i hi];exact hb) hlv
  ·rename_i hi
   cases hnb:c.bs[i - G.next]? with
   | none=>rw [hnb] at hb;cases hb
   | some nb=>
    rw [hnb] at hb
    have hb:fH nb=b:=Option.some.inj hb
    subst hb
    have hk:i - G.next < c.ids.length:=by have:=(List.getElem?_eq_some_iff.1 hnb).1;omega
    have hkk:=List.getElem?_eq_getElem hk
    obtain⟨_,bb,nb0,nb',q1,q2,q3,q4⟩:=hseen _ _ hkk
    rw [hnb] at q3;cases q3
    have e:=hin (i - G.next) _ hkk
    rw [show G.next + (i - G.next)=i from by omega] at e
    rw [e]
    exact hm.spot _ _ q1 (by rw [← rz q2 q4];exact hlv)
 refine⟨⟨l1,?_,fun i x hi hx=>?_,?_,Nat.le_refl _,hm.gle,fun i hi=>by rw [hget,if_pos hi],fun i hi=>?_,fun i hi=>?_,fun i x hx hl=>?_⟩,v2,v1,hlen,fun k i hk=>?_,fun i h1 h2=>?_⟩
 ·intro i b hb
  rw [hget] at hb
  split at hb
  ·rename_i hi
   rw [hlo i hi]
   have hmb:m.get i=some b:=by rw [hbase i hi];exact hb
   have hb':=hm.blk i b hmb
   rw [hB.get i hi] at hb
   cases hnb:gbs[i]? with
   | none=>rw [hnb] at hb;cases hb
   | some nb=>
    rw [hnb] at hb
    have hb:fH nb=b:=Option.some.inj hb
    subst hb
    exact xM hr0 hb' (AJ nb) (hB.shut nb (List.mem_of_getElem? hnb))
  ·rename_i hi
   cases hnb:c.bs[i - G.next]? with
   | none=>rw [hnb] at hb;cases hb
   | some nb=>
    rw [hnb] at hb
    have hb:fH nb=b:=Option.some.inj hb
    subst hb
    have hk:i - G.next < c.ids.length:=by have:=(List.getElem?_eq_some_iff.1 hnb).1;omega
    have hkk:=List.getElem?_eq_getElem hk
    obtain⟨_,bb,nb0,nb',q1,q2,q3,q4⟩:=hseen _ _ hkk
    rw [hnb] at q3;cases q3
    have e:=hin (i - G.next) _ hkk
    rw [show G.next + (i - G.next)=i from by omega] at e
    rw [e]
    exact xM hr (hm.blk _ _ q1) q2 q4
 ·have:=Mem.K6 (m:=Y3 G c.bs) l1 hx
  have hi:(Y3 G c.bs).next≤i:=hi
  omega
 ·show G.next≤(Y3 G c.bs).next
  rw [hnext];omega
 ·obtain⟨y,h1,h2⟩:=hm.ghas i hi
  have hi':i < G.next:=Nat.lt_of_lt_of_le hi hm.gle
  exact⟨y,by rw [hget,if_pos hi',← hbase i hi'];exact h1,h2⟩
 ·rw [hlo i (Nat.lt_of_lt_of_le hi hm.gle)];exact hm.glob i hi
 ·exact hspot i x hx hl
 ·obtain⟨q1,b,nb,_,q2,q3,_⟩:=hseen k i hk
  exact⟨q1,b,q2,CF q3⟩
 ·rw [hnext] at h2
  exact⟨_,List.getElem?_eq_getElem (by omega)⟩
def Z7 (next:Nat)(ι ι2:Inj)(ids:List Nat):Inj:=fun i=>if i < next then ι i else ι2 (ids.getD (i - next) 0)
theorem pI {g next i j:Nat}{ids:List Nat}(h:mK g ids next i=some j):
  (i < g∧j=i)∨(g≤i∧i - g < ids.length∧ids[i - g]?=some j)∨(g + ids.length≤i∧j=next + (i - g - ids.length)):=by
 unfold mK at h
 rw [O4] at h
 cases h1:Nat.blt i g with
 | true=>rw [h1] at h;have h:some i=some j:=h;cases h;exact .inl ⟨Eq.mp Nat.blt_eq h1,rfl⟩
 | false=>
  rw [h1] at h
  have h1:=iT h1
  cases h2:Nat.blt (Nat.sub i g) ids.length with
  | true=>
   rw [h2] at h
   have h:uj (i - g) ids=some j:=h
   rw [fA] at h
   exact .inr (.inl ⟨h1,Eq.mp Nat.blt_eq h2,h⟩)
  | false=>
   rw [h2] at h
   have h2:ids.length≤i - g:=iT h2
   have h:some (next + (i - g - ids.length))=some j:=h
   cases h
   exact .inr (.inr ⟨by omega,rfl⟩)
theorem xP (hB:∃gbs,zK G gbs){f:FuncId}{args:List l8}{c:CO}{a:Ans}{v:l8}{bs:List NB}(hm:RM P G ι m w.heap)(hargs:ltL (m.nm ι) args)(hc:nZ G.next args m=some c)(ha:qz P G f c.vs c.bs a)
  (hv:iw (mK G.next c.ids m.next) a.v=some v) (hbs:uI (mK G.next c.ids m.next) a.bs=some bs):
  CallsIn Fence.wide 0 P f (G8 ι args).toArray w (U7 P G ι m w [⟨v,layAll bs m⟩]):=by
 have hBok:T.Ok G.t G.next:=by obtain⟨gbs,hB⟩:=hB;exact hB.ok
 obtain⟨hm1,hargs1,hconc,hlen,hidh,hidx⟩:=JQ hB hm hc hargs
 have hcall:=ha (aL G.next ι c.ids) w hm1 hargs1
 rw [hconc] at hcall
 refine hcall.mono ?_
 rintro e w' ⟨ι2,r,hst,hrv,rfl,hans⟩
 obtain⟨co,hco,hans⟩:=I7 hans
 obtain⟨seen,⟨hg1,hg2⟩,hids,h3,h4⟩:=je hco
 have hvs:∃u,co.vs=[u]∧iw (Bv (layAll c.bs G).next co.ids) r.v=some u:=by
  simp only [pV] at h3
  obtain⟨x,h5,h3⟩:=I7 h3
  obtain⟨y,h6,h3⟩:=I7 h3
  cases h6
  have h3:some [x]=some co.vs:=h3
  exact⟨x,(Option.some.inj h3).symm,h5⟩
 obtain⟨u,hu,hru⟩:=hvs
 rw [hu] at hans
 have hans:some (⟨u,co.bs⟩:Ans)=some a:=hans
 cases hans
 obtain⟨b1,b2⟩:=lG _ _ h4
 obtain⟨b3,b4⟩:=lG _ _ hbs
 obtain⟨l1,l2,l3,l4⟩:=gU c.bs G hBok
 obtain⟨k1,k2,k3,k4⟩:=gU bs m hm.ok
 have hlo:(Y3 G c.bs).lim=(layAll c.bs G).next:=rfl
 have hlolen:(layAll c.bs G).next=G.next + c.ids.length:=by rw [l2,hlen]
 have hno:∀b,¬ Fa (aL G.next ι c.ids) (Y3 G c.bs) b:=by
  rintro b ⟨i,x,hi,hx,_,_⟩
  have:=Mem.K6 (m:=Y3 G c.bs) hm1.ok hx
  have hi:(Y3 G c.bs).next≤i:=hi
  omega
 have hheap:∀b,b < w.heap.size→w'.heap[b]?=w.heap[b]?:=fun b hb=>hst.frame b hb (hno b)
 have hnewloc:∀i x,(layAll c.bs G).next≤i→r.m.get i=some x→U3 x=true→w.heap.size≤(ι2 i).b:=by
  intro i x hi hx hl
  rcases hst.own _ ⟨i,x,by rw [hst.lim];exact hi,hx,hl,rfl⟩ with h | h
  ·exact absurd h (hno _)
  ·exact h
 have hseen:∀(k i:Nat),co.ids[k]?=some i→(layAll c.bs G).next≤i∧∃b nb nb',r.m.get i=some b∧AY b=some nb∧bs[k]?=some nb'∧
   pW (fun i=>ob (Bv (layAll c.bs G).next co.ids i) (mK G.next c.ids m.next)) nb=some nb':=by
  intro k i hk
  have hk':=hk
  rw [hids,List.getElem?_map] at hk
  cases hp:seen[k]? with
  | none=>rw [hp] at hk;cases hk
  | some p=>
   rw [hp] at hk
   have hk:p.1=i:=Option.some.inj hk
   obtain⟨q1,b,q2,q3⟩:=hg1 p (List.mem_of_getElem? hp)
   rw [hk] at q1 q2
   have hkl:k < co.bs.length:=by rw [b1,List.length_map];exact (List.getElem?_eq_some_iff.1 hp).1
   have hkl2:k < bs.length:=by rw [b3];exact hkl
   obtain⟨y,q4,q5⟩:=b2 k _ (List.getElem?_eq_getElem hkl)
   obtain⟨z,q6,q7⟩:=b4 k _ (List.getElem?_eq_getElem hkl2)
   have q6:co.bs[k]?=some z:=q6
   rw [List.getElem?_eq_getElem hkl] at q6
   cases q6
   rw [List.getElem?_map,hp] at q4
   have q4:p.2=y:=Option.some.inj q4
   rw [← q4] at q5
   exact⟨q1,b,p.2,_,q2,q3,List.getElem?_eq_getElem hkl2,CG q5 q7⟩
 have hbl:bs.length=co.ids.length:=by rw [b3];show co.bs.length=_;rw [b1,hids];simp
 have hget:∀i,(layAll bs m).get i=if i < m.next then m.get i else (bs[i - m.next]?).map fH:=k4
 have hold:∀i,i < m.next→Z7 m.next ι ι2 co.ids i=ι i:=fun i hi=>if_pos hi
 have hnew:∀k i,co.ids[k]?=some i→Z7 m.next ι ι2 co.ids (m.next + k)=ι2 i:=by
  intro k i hk
  unfold Z7
  rw [if_neg (by omega),show m.next + k - m.next=k from by omega,List.getD_eq_getElem?_getD,hk];rfl
 have hlt:∀i x,m.get i=some x→i < m.next:=fun i x hx=>Mem.K6 hm.ok hx
 have hhas:∀i,m.has i→(layAll bs m).has i:=fun i ⟨x,h1,h2⟩=>⟨x,by rw [hget,if_pos (hlt i x h1)];exact h1,h2⟩
 have hext:∀i,m.has i→Z7 m.next ι ι2 co.ids i=ι i:=fun i ⟨x,h1,_⟩=>hold i (hlt i x h1)
 have hGm:G.next≤m.next:=Nat.le_trans hm.glim hm.limn
 have hr:vO ι2 (r.m.nm ι2) (Z7 m.next ι ι2 co.ids) ((layAll bs m).nm (Z7 m.next ι ι2 co.ids)) (fun i=>ob (Bv (layAll c.bs G).next co.ids i) (mK G.next c.ids m.next)):=by
  intro i j hij ⟨y,hy,hyv⟩
  obtain⟨t,h5,h6⟩:=I7 hij
  have fin:(layAll bs m).has j∧Z7 m.next ι ι2 co.ids j=ι2 i→((layAll bs m).nm (Z7 m.next ι ι2 co.ids)) j∧Z7 m.next ι ι2 co.ids j=ι2 i∧((layAll bs m).nm (Z7 m.next ι ι2 co.ids)).cap j=(r.m.nm ι2).cap i:=
   fun ⟨p,q⟩=>⟨p,q,congrArg Loc.cap q⟩
  rcases vQ h5 with⟨h7,rfl⟩ | ⟨h7,h8,h9⟩
  ·
   have hcan:(Y3 G c.bs).get t=some y:=by rw [← hst.old t h7];exact hy
   have hι2:ι2 t=aL G.next ι c.ids t:=hst.ext t ⟨y,hcan,hyv⟩
   rcases pI h6 with⟨h10,rfl⟩ | ⟨h10,h11,h12⟩ | ⟨h10,_⟩
   ·have hmj:m.has j:=by
     refine⟨y,?_,hyv⟩
     have h13:(Y3 G c.bs).get j=if j < G.next then G.get j else (c.bs[j - G.next]?).map fH:=l4 j
     rw [h13,if_pos h10] at hcan
     rw [hm.base j h10];exact hcan
    exact fin ⟨hhas j hmj,by rw [hext j hmj,hι2];exact (if_pos h10).symm⟩
   ·obtain⟨_,hmj⟩:=hidh _ _ h12
    refine fin ⟨hhas j hmj,?_⟩
    rw [hext j hmj,hι2]
    unfold aL
    rw [if_neg (by omega),List.getD_eq_getElem?_getD,h12];rfl
   ·omega
  ·
   rcases pI h6 with⟨h10,_⟩ | ⟨h10,h11,_⟩ | ⟨h10,rfl⟩
   ·omega
   ·omega
   ·have e:t - G.next - c.ids.length=t - (layAll c.bs G).next:=by omega
    obtain⟨_,_,_,nb',_,_,q,_⟩:=hseen _ _ h9
    refine fin ⟨⟨fH nb',?_,ru nb'⟩,by rw [e];exact hnew _ _ h9⟩
    rw [e,hget,if_neg (by omega),show m.next + (t - (layAll c.bs G).next) - m.next=t - (layAll c.bs G).next from by omega,q];rfl
 obtain⟨v1,v2⟩:=fV hr r.v v (jc _ _ _ hru hv) hrv
 have hcase:∀i x,(layAll bs m).get i=some x→(i < m.next∧m.get i=some x)∨∃k id b,i=m.next + k∧co.ids[k]?=some id∧r.m.get id=some b∧(layAll c.bs G).next≤id∧U3 x=U3 b∧
   bO P (Z7 m.next ι ι2 co.ids) ((layAll bs m).nm (Z7 m.next ι ι2 co.ids)) w'.heap (ι2 id) x:=by
  intro i x hx
  rw [hget] at hx
  split at hx
  ·exact .inl ⟨by assumption,hx⟩
  ·rename_i hi
   cases hnb:bs[i - m.next]? with
   | none=>rw [hnb] at hx;cases hx
   | some nb=>
    rw [hnb] at hx
    have hx:fH nb=x:=Option.some.inj hx
    subst hx
    have hk:i - m.next < co.ids.length:=by have:=(List.getElem?_eq_some_iff.1 hnb).1;omega
    have hkk:=List.getElem?_eq_getElem hk
    obtain⟨q0,b,nb0,nb',q1,q2,q3,q4⟩:=hseen _ _ hkk
    rw [hnb] at q3;cases q3
    exact .inr ⟨i - m.next,_,b,by omega,hkk,q1,q0,rz q2 q4,xM hr (hst.rm.blk _ _ q1) q2 q4⟩
 refine .inl ⟨G5 ι2 r.v,rfl,⟨v,layAll bs m⟩,List.mem_singleton.2 rfl,Z7 m.next ι ι2 co.ids,?_,v2,v1.symm⟩
 refine⟨⟨k1,?_,?_,by rw [k3];exact hm.glim,by rw [k3,k2];exact Nat.le_trans hm.limn (by omega),hm.gle,fun i hi=>by rw [hget,if_pos (by omega)];exact hm.base i hi,fun i hi=>hhas i (hm.ghas i hi),
  fun i hi=>by rw [hext i (hm.ghas i hi)];exact hm.glob i hi,fun i x hx hl=>by
   rcases hcase i x hx with⟨h1,h2⟩ | ⟨k,id,b,rfl,h2,h3,_,h5,_⟩
   ·rw [hold i h1];exact hm.spot i x h2 hl
   ·rw [hnew k id h2];exact hst.rm.spot id b h3 (by rw [← h5];exact hl)⟩,hext,hhas,by rw [k2];omega,k3,fun i hi=>by rw [hget,if_pos (by have:=hm.limn;omega)],hst.size,fun b hb _=>hheap b hb,?_,hst.os,hst.out,hst.tape⟩
 ·intro i x hx
  rcases hcase i x hx with⟨h1,h2⟩ | ⟨k,id,b,rfl,h2,h3,_,_,h4⟩
  ·rw [hold i h1]
   exact (hm.blk i x h2).mono (n:=m.nm ι) hext (Mem.W9 hhas hext) fun hl=>hheap _ (bA (hm.blk i x h2) hl)
  ·rw [hnew k id h2];exact h4
 ·intro i x hi hx hl
  rw [k3] at hi
  rcases hcase i x hx with⟨h1,h2⟩ | ⟨k,id,b,rfl,h2,h3,h4,h5,h6⟩
  ·have ho:=hm.own i x hi h2 hl
   have hb:=bA (hm.blk i x h2) hl
   refine⟨fun j y hj hy hly=>?_,fun c e fz hcc=>?_⟩
   ·rcases hcase j y hy with⟨g1,g2⟩ | ⟨k',id',b',rfl,g2,g3,g4,g5,g6⟩
    ·rw [hold j g1,hold i h1];exact ho.alone j y hj g2 hly
    ·rw [hnew k' id' g2,hold i h1]
     have:=hnewloc id' b' g4 g3 (by rw [← g5];exact hly)
     omega
   ·rw [hold i h1,hheap _ hb] at hcc;exact ho.free c e fz hcc
  ·have hlb:U3 b=true:=by rw [← h5];exact hl
   have ho:=hst.rm.own id b (by rw [hst.lim];exact h4) h3 hlb
   have hn:=hnewloc id b h4 h3 hlb
   refine⟨fun j y hj hy hly=>?_,fun c e fz hcc=>?_⟩
   ·rw [hnew k id h2]
    rcases hcase j y hy with⟨g1,g2⟩ | ⟨k',id',b',rfl,g2,g3,g4,g5,g6⟩
    ·rw [hold j g1]
     have:=bA (hm.blk j y g2) hly
     omega
    ·rw [hnew k' id' g2]
     refine ho.alone id' b' (fun e=>hj ?_) g3 (by rw [← g5];exact hly)
     subst e
     have hnd:co.ids.Nodup:=by rw [hids];exact hg2
     have:k'=k:=(List.getElem?_inj (List.getElem?_eq_some_iff.1 g2).1 hnd).1 (g2.trans h2.symm)
     rw [this]
   ·rw [hnew k id h2] at hcc;exact ho.free c e fz hcc
 ·rintro b ⟨i,x,hi,hx,hl,rfl⟩
  rw [k3] at hi
  rcases hcase i x hx with⟨h1,h2⟩ | ⟨k,id,bb,rfl,h2,h3,h4,h5,h6⟩
  ·rw [hold i h1];exact .inl ⟨i,x,hi,h2,hl,rfl⟩
  ·rw [hnew k id h2];exact .inr (hnewloc id bb h4 h3 (by rw [← h5];exact hl))
end
end Go.AM
namespace Go.AM
open Go
section
variable {P:Program}
structure Sum where
 f:FuncId
 args:List l8
 bs:List NB
 a:Ans
noncomputable def sumOf (l:List Sum)(f:FuncId)(args:List l8)(bs:List NB):Option Ans:=
 List.rec none (fun s _ ih=>bi (Nat.beq s.f f) (bi (wC (dz 100) s.args args) (bi (fI s.bs bs) (some s.a) ih) ih) ih) l
theorem mJ {G:Mem}:∀(l:List Sum),(∀s∈l,qz P G s.f s.args s.bs s.a)→∀f args bs a,sumOf l f args bs=some a→qz P G f args bs a
 | [],_,f,args,bs,a,h=>by cases h
 | s :: l,hl,f,args,bs,a,h=>by
  have ih:=mJ l (fun s hs=>hl s (by simp [hs])) f args bs a
  have h:bi (Nat.beq s.f f) (bi (wC (dz 100) s.args args) (bi (fI s.bs bs) (some s.a) (sumOf l f args bs)) (sumOf l f args bs)) (sumOf l f args bs)=some a:=h
  cases h1:Nat.beq s.f f with
  | false=>rw [h1] at h;exact ih h
  | true=>
   rw [h1] at h
   cases h2:wC (dz 100) s.args args with
   | false=>rw [h2] at h;exact ih h
   | true=>
    rw [h2] at h
    cases h3:fI s.bs bs with
    | false=>rw [h3] at h;exact ih h
    | true=>
     rw [h3] at h
     have h:some s.a=some a:=h
     cases h
     rw [← Nat.eq_of_beq_eq_true h1,← dW (bT 100) _ _ h2,← gV _ _ h3]
     exact hl s (by simp)
structure KOk (P:Program)(K:Known):Prop where
 mix:P.follows .mixedOrders=true
 fns:∀f sf,K.fns f=some sf→I8 P f sf
 base:∃gbs,zK K.base gbs
 sum:∀f args bs a,K.sum f args bs=some a→qz P K.base f args bs a
theorem ku (K:Known)(fuel:Nat)(fn:Fn)(args:List l8)(m:Mem):F9 K fuel 0 fn args m=none:=rfl
theorem dX (K:Known)(fuel n:Nat)(fn:Fn)(args:List l8)(m:Mem):F9 K fuel (n + 1) fn args m=match fn with
  | .func f=>ob (K.fns f) fun sf=>bi sf.pure (rX K (F9 K fuel n) fuel f sf args m) (D8 (F9 K fuel n) (Bz K (F9 K fuel n) fuel) fuel sf args m)
  | .yield l=>wH (F9 K fuel n) fuel l args m
  | _=>none:=rfl
theorem zL {K:Known}(hK:KOk P K){cf:K7}(hcf:qU P K.base cf){fuel:Nat}{f:FuncId}{sf:SFn}(hf:I8 P f sf){args:List l8}{bs:List NB}{a:Ans}(h:BA K cf fuel f sf args bs=some a):qz P K.base f args bs a:=by
 unfold BA at h
 cases hs:K.sum f args bs with
 | some b=>
  rw [hs] at h
  have h:some b=some a:=h
  cases h
  exact hK.sum f args bs _ hs
 | none=>rw [hs] at h;exact AB hcf (vN hK.fns hcf fuel fun slots nt r=>fU hK.mix hcf slots nt r) hK.mix fuel hf h
theorem vS {K:Known}(hK:KOk P K)(fuel:Nat):∀n,qU P K.base (F9 K fuel n):=by
 intro n
 induction n with
 | zero=>exact⟨(fun h=>by rw [ku] at h;cases h),(fun h=>by rw [ku] at h;cases h),(fun h=>by rw [ku] at h;cases h)⟩
 | succ n ih=>
  refine⟨fun {f args m outs} h=>?_,fun {l args m outs} h {ι w} hm hargs=>?_,fun {fn args m outs} h=>?_⟩
  ·rw [dX] at h
   obtain⟨sf,h1,h⟩:=I7 h
   have hf:=hK.fns f sf h1
   refine⟨hf.ok,fun {ι w} hm hargs=>?_⟩
   cases hp:sf.pure with
   | false=>
    rw [hp] at h
    exact zD ih (vN hK.fns ih fuel fun slots nt r=>fU hK.mix ih slots nt r) fuel (fun slots nt r=>fU hK.mix ih slots nt r) hf h hm hargs
   | true=>
    rw [hp] at h
    have h:rX K (F9 K fuel n) fuel f sf args m=some outs:=h
    obtain⟨c,h2,h⟩:=I7 h
    obtain⟨a,h3,h⟩:=I7 h
    obtain⟨v,h4,h⟩:=I7 h
    obtain⟨bs,h5,h⟩:=I7 h
    cases h
    exact xP hK.base hm hargs h2 (zL hK ih hf h3) h4 h5
  ·rw [dX] at h
   exact xC ih fuel (fun slots nt r=>fU hK.mix ih slots nt r) h hm hargs
  ·rw [dX] at h
   cases fn with
   | func f=>exact .inl ⟨f,rfl⟩
   | yield l=>exact .inr ⟨l,rfl⟩
   | _=>cases h
theorem AL {K:Known}(hK:KOk P K){fuel n:Nat}{f:FuncId}{sf:SFn}(hf:I8 P f sf){args:List l8}{bs:List NB}{a:Ans}(h:BA K (F9 K fuel n) fuel f sf args bs=some a):qz P K.base f args bs a:=
 zL hK (vS hK fuel n) hf h
end
end Go.AM
namespace Go.AM
open Go
noncomputable def ar0 (pure rc:Bool)(a:AFn):SFn:=⟨pure,a.args,a.nslots,a.results,trC a.body,bif rc then some a.body else none⟩
theorem JR {P:Program}{slots:List Nat}{f:FuncId}{a:AFn}(h:cFn P slots f=some a)(pure rc:Bool):I8 P f (ar0 pure rc a):=by
 unfold cFn at h
 split at h
 ·cases h
 ·rename_i fn hfn
  split at h
  ·cases h
  ·rename_i c hc
   split at h
   ·rename_i b r hb hr
    split at h
    ·rename_i hok
     cases h
     simp only [Bool.and_eq_true,bne_iff_ne,ne_eq] at hok
     obtain⟨⟨⟨h1,h2⟩,h3⟩,h4⟩:=hok
     refine⟨⟨fn,hfn,by rw [hc];rfl,h4⟩,slots,fn,c,b,r,hfn,hc,hb,hr,h1,fun t ht=>?_,?_,rfl,rfl,rfl,rfl,fun c' hc'=>?_⟩
     ·exact Eq.mp Nat.blt_eq (List.all_eq_true.1 h2 t ht)
     ·have:slots.length < 1152921504606846976:=Eq.mp Nat.blt_eq h3
      exact this
     ·cases rc with
      | true=>exact (Option.some.inj hc').symm
      | false=>cases hc'
    ·cases h
   ·cases h
theorem r9 {P:Program}{slots:List Nat}{f:FuncId}{pure rc:Bool}{sf:SFn}(h:(cFn P slots f).map (ar0 pure rc)=some sf):I8 P f sf:=by
 cases hc:cFn P slots f with
 | none=>rw [hc] at h;cases h
 | some a=>rw [hc] at h;cases h;exact JR hc pure rc
end Go.AM
namespace Go.AM
open Go
def TOk (P:Program)(r:Nat→Nat)(t:T (Option SFn)):Prop:=∀i sf,t.get i=some (some sf)→I8 P (r i) sf
theorem I5 {P:Program}{r:Nat→Nat}:TOk P r .e:=fun i sf h=>by cases h
def OOk (P:Program)(i:Nat)(o:Option SFn):Prop:=∀sf,o=some sf→I8 P i sf
theorem aX {P:Program}{i:Nat}:OOk P i none:=fun _ h=>by cases h
theorem J2 {P:Program}{i:Nat}{sf:SFn}(h:I8 P i sf):OOk P i (some sf):=fun _ e=>by cases e;exact h
theorem I6 {P:Program}{r:Nat→Nat}{a b:T (Option SFn)}{x:Option SFn}(ha:TOk P (fun i=>r (2 * i + 1)) a)(hx:OOk P (r 0) x)(hb:TOk P (fun i=>r (2 * i + 2)) b):TOk P r (.nd a x b):=by
 intro i sf h
 cases i with
 | zero=>exact hx sf (Option.some.inj h)
 | succ j=>
  have h:(Nat.rec (a.get (Nat.div j 2)) (fun _ _=>b.get (Nat.div j 2)) (Nat.mod j 2):Option (Option SFn))=some (some sf):=h
  rcases Nat.mod_two_eq_zero_or_one j with h2 | h2
  ·have h2':Nat.mod j 2=0:=h2
   rw [h2'] at h
   have:=ha _ sf h
   have e:2 * Nat.div j 2 + 1=j + 1:=by
    have:Nat.div j 2=j / 2:=rfl
    omega
   have this:I8 P (r (2 * Nat.div j 2 + 1)) sf:=this
   rw [e] at this
   exact this
  ·have h2':Nat.mod j 2=1:=h2
   rw [h2'] at h
   have:=hb _ sf h
   have e:2 * Nat.div j 2 + 2=j + 1:=by
    have:Nat.div j 2=j / 2:=rfl
    omega
   have this:I8 P (r (2 * Nat.div j 2 + 2)) sf:=this
   rw [e] at this
   exact this
theorem FU {P:Program}{t:T (Option SFn)}(h:TOk P (fun i=>i) t):∀f sf,ob (t.get f) (fun x=>x)=some sf→I8 P f sf:=by
 intro f sf hf
 obtain⟨x,h1,h2⟩:=I7 hf
 have h2:x=some sf:=h2
 rw [h2] at h1
 exact h f sf h1
end Go.AM
namespace Go.AM
open Go
section
variable {α β γ:Type}
@[simp] theorem ac6 (a:α)(f:α→Option (List β)):bnd (some [a]) f=f a:=_root_.id rfl
@[simp] theorem ar1 (f:α→Option (List β)):bnd (none:Option (List α)) f=none:=_root_.id rfl
@[simp] theorem ab7 (a:α)(f:α→Option β):Jp (some [a]) f=f a:=_root_.id rfl
@[simp] theorem JU (a:α)(z:β)(f:α→β):(Option.rec z (fun v=>f v) (some a):β)=f a:=_root_.id rfl
@[simp] theorem JV (z:β)(f:α→β):(Option.rec z (fun v=>f v) none:β)=z:=_root_.id rfl
end
section
variable (k:IntKind)(b:Bool)(n:Int)(s:List UInt8)(i o l c:Nat)(v:l8)(as bs:List l8)(fn:Fn){β:Type}
@[simp] theorem Ra (p:l8→β)(q:β):fZ (.bool b) p q=q:=_root_.id rfl
@[simp] theorem ab8 (p:l8→β)(q:β):fZ (.int k n) p q=q:=_root_.id rfl
@[simp] theorem ab9 (p:l8→β)(q:β):fZ (.str s) p q=q:=_root_.id rfl
@[simp] theorem JW (p:l8→β)(q:β):fZ .nilPtr p q=q:=_root_.id rfl
@[simp] theorem abb (p:l8→β)(q:β):fZ (.ptr i o) p q=q:=_root_.id rfl
@[simp] theorem FV (p:l8→β)(q:β):fZ .nilSlice p q=q:=_root_.id rfl
@[simp] theorem Qf (p:l8→β)(q:β):fZ (.slice i o l c) p q=q:=_root_.id rfl
@[simp] theorem JX (p:l8→β)(q:β):fZ (.sliceU i o l c) p q=q:=_root_.id rfl
@[simp] theorem JY (p:l8→β)(q:β):fZ .nilMap p q=q:=_root_.id rfl
@[simp] theorem abd (p:l8→β)(q:β):fZ (.map i) p q=q:=_root_.id rfl
@[simp] theorem GY (p:l8→β)(q:β):fZ .nilFunc p q=q:=_root_.id rfl
@[simp] theorem Rb (p:l8→β)(q:β):fZ (.func fn as bs) p q=q:=_root_.id rfl
@[simp] theorem FW (p:l8→β)(q:β):fZ .nilIface p q=q:=_root_.id rfl
@[simp] theorem Qg (p:l8→β)(q:β):fZ (.iface i v) p q=q:=_root_.id rfl
@[simp] theorem abe (p:l8→β)(q:β):fZ (.agg as) p q=q:=_root_.id rfl
@[simp] theorem Qh (p:l8→β)(q:β):fZ (.tuple as) p q=q:=_root_.id rfl
@[simp] theorem Qi (p:l8→β)(q:β):fZ .undef p q=q:=_root_.id rfl
@[simp] theorem abf (p:l8→β)(q:β):fZ (.pan v) p q=p v:=_root_.id rfl
end
@[simp] theorem ar2 (x:l8)(ls:List l8)(env:T l8):oL0 (x :: ls) env=x:=_root_.id rfl
@[simp] theorem ar3 (a x:l8)(ls:List l8)(env:T l8):oL1 (a :: x :: ls) env=x:=_root_.id rfl
@[simp] theorem ar4 (a b x:l8)(ls:List l8)(env:T l8):oL2 (a :: b :: x :: ls) env=x:=_root_.id rfl
@[simp] theorem ar5 (a b c x:l8)(ls:List l8)(env:T l8):oL3 (a :: b :: c :: x :: ls) env=x:=_root_.id rfl
@[simp] theorem ac7 (k:Nat)(ls:List l8)(env:T l8):kE k ls env=ls[k]?.getD .undef:=GL k ls
@[simp] theorem ac8 (v:l8)(ls:List l8)(env:T l8):M0 v ls env=v:=_root_.id rfl
@[simp] theorem abg (g:T l8→l8)(ls:List l8)(env:T l8):O9 g ls env=g env:=_root_.id rfl
@[simp] theorem atF (l r:T l8)(x:l8):gH (.nd l x r)=x:=_root_.id rfl
@[simp] theorem atG (g:T l8→l8)(l r:T l8)(x:l8):gL g (.nd l x r)=g l:=_root_.id rfl
@[simp] theorem atH (g:T l8→l8)(l r:T l8)(x:l8):gR g (.nd l x r)=g r:=_root_.id rfl
@[simp] theorem atI (v:l8)(l r:T l8)(x:l8):sH v (.nd l x r)=.nd l v r:=_root_.id rfl
@[simp] theorem atJ (s:l8→T l8→T l8)(v:l8)(l r:T l8)(x:l8):sL s v (.nd l x r)=.nd (s v l) x r:=_root_.id rfl
@[simp] theorem atK (s:l8→T l8→T l8)(v:l8)(l r:T l8)(x:l8):sR s v (.nd l x r)=.nd l x (s v r):=_root_.id rfl
@[simp] theorem ar6 (v:l8)(t:T l8):sNo v t=t:=_root_.id rfl
@[simp] theorem ac9 (ls:List l8)(env:T l8):evs [] ls env=[]:=_root_.id rfl
@[simp] theorem abh (x:OF)(l:List OF)(ls:List l8)(env:T l8):evs (x :: l) ls env=x ls env :: evs l ls env:=_root_.id rfl
section
variable {β:Type}(ls:List l8)(env:T l8)(m:Mem)
@[simp] theorem acd (x:OF):aj x ls env=some (x ls env):=_root_.id rfl
@[simp] theorem abj (c a b:OF):Y5 c a b ls env=kF (c ls env) fun t=>some (bi t (a ls env) (b ls env)):=_root_.id rfl
@[simp] theorem abk (b:Bool)(k:Bool→Option β):kF (.bool b) k=k b:=_root_.id rfl
@[simp] theorem ace (k:IntKind)(n:Int)(f:IntKind→Int→Option β):um (.int k n) f=f k n:=_root_.id rfl
@[simp] theorem acf (s:List UInt8)(f:List UInt8→Option β):zh (.str s) f=f s:=_root_.id rfl
@[simp] theorem acg (i o:Nat)(f:Nat→Nat→Option β):lT (.ptr i o) f=f i o:=_root_.id rfl
@[simp] theorem ach (l:List l8)(f:List l8→Option β):wF (.agg l) f=f l:=_root_.id rfl
@[simp] theorem aci (l:List l8)(f:List l8→Option β):Gv (.tuple l) f=f l:=_root_.id rfl
@[simp] theorem acj (i:Nat)(z:Option β)(f:Nat→Option β):uo (.map i) z f=f i:=_root_.id rfl
@[simp] theorem abl (z:Option β)(f:Nat→Option β):uo .nilMap z f=z:=_root_.id rfl
@[simp] theorem acn (z:Option β)(f g:Nat→Nat→Nat→Nat→Option β):vSl .nilSlice z f g=z:=_root_.id rfl
@[simp] theorem vT (a b c d:Nat)(z:Option β)(f g:Nat→Nat→Nat→Nat→Option β):vSl (.slice a b c d) z f g=f a b c d:=_root_.id rfl
@[simp] theorem rE (a b c d:Nat)(z:Option β)(f g:Nat→Nat→Nat→Nat→Option β):vSl (.sliceU a b c d) z f g=g a b c d:=_root_.id rfl
@[simp] theorem aco (fn:Fn)(a b:List l8)(f:Fn→List l8→List l8→Option β):Jj (.func fn a b) f=f fn a b:=_root_.id rfl
@[simp] theorem abm (n:Nat)(k:Nat→Option β):Gw (n:Int) k=k n:=_root_.id rfl
@[simp] theorem Qj (n:Nat)(k:Nat→Option β):Gw (.ofNat n) k=k n:=_root_.id rfl
@[simp] theorem Rc (k:Nat→Option β):Gw 0 k=k 0:=_root_.id rfl
@[simp] theorem abn (k:Nat→Option β):Gw 1 k=k 1:=_root_.id rfl
@[simp] theorem acp (k:IntKind)(n:Int)(f:Nat→Option β):nI (.int k n) f=Gw n f:=_root_.id rfl
@[simp] theorem tJ (k:IntKind):kEq k k=true:=by cases k <;> rfl
@[simp] theorem ar7 (f:IB)(g:SB)(x y:OF):pIb f g x y ls env=AX f g (x ls env) (y ls env):=_root_.id rfl
@[simp] theorem abo (f:IB)(g:SB)(k:IntKind)(a b:Int):AX f g (.int k a) (.int k b)=f k a b:=by
 show bi (kEq k k) (f k a b) none=_
 rw [tJ];rfl
@[simp] theorem abp (f:IB)(g:SB)(a b:List UInt8):AX f g (.str a) (.str b)=g a b:=_root_.id rfl
@[simp] theorem acr (x y:OF):abX x y ls env=aaW (x ls env) (y ls env):=_root_.id rfl
@[simp] theorem acs (x y:OF):Jk x y ls env=aaX (x ls env) (y ls env):=_root_.id rfl
@[simp] theorem acu (a b:Int):bG .i64 a b=some (.int .i64 (w64 (a + b))):=_root_.id rfl
@[simp] theorem acv (a b:Int):jV .i64 a b=some (.int .i64 (w64 (a - b))):=_root_.id rfl
@[simp] theorem acw (a b:Int):tZ .i64 a b=some (.int .i64 (w64 (a * b))):=_root_.id rfl
@[simp] theorem ar8 (k:IntKind)(a b:Int):iEq k a b=some (.bool (decide (a=b))):=by
 show some (l8.bool (pY a b))=_
 rw [gB,show (a == b)=decide (a=b) from rfl]
@[simp] theorem ar9 (k:IntKind)(a b:Int):iNe k a b=some (.bool (!decide (a=b))):=by
 show some (l8.bool (!pY a b))=_
 rw [gB,show (a == b)=decide (a=b) from rfl]
@[simp] theorem ara (k:IntKind)(a b:Int):iLt k a b=some (.bool (decide (a < b))):=by rw [← dA];rfl
@[simp] theorem arb (k:IntKind)(a b:Int):iLe k a b=some (.bool (decide (a≤b))):=by
 show some (l8.bool (!lV b a))=_
 rw [dA,show (!decide (b < a))=decide (a≤b) from by rw [Bool.eq_iff_iff];simp]
@[simp] theorem ard (k:IntKind)(a b:Int):iGt k a b=some (.bool (decide (b < a))):=by rw [← dA];rfl
@[simp] theorem arf (k:IntKind)(a b:Int):iGe k a b=some (.bool (decide (b≤a))):=by
 show some (l8.bool (!lV a b))=_
 rw [dA,show (!decide (a < b))=decide (b≤a) from by rw [Bool.eq_iff_iff];simp]
theorem eX {n:Int}(h:-9223372036854775808≤n)(h':n < 9223372036854775808):w64 n=n:=by
 cases n with
 | ofNat m=>
  show bi (Nat.blt m 9223372036854775808) _ _=_
  rw [show Nat.blt m 9223372036854775808=true from Nat.blt_eq.mpr (by simp at h';omega)];rfl
 | negSucc m=>
  show bi (Nat.blt m 9223372036854775808) _ _=_
  rw [show Nat.blt m 9223372036854775808=true from Nat.blt_eq.mpr (by omega)];rfl
@[simp] theorem arh (f:EqF)(x y:OF):pEq f x y ls env=ob (f (x ls env) (y ls env)) fun b=>some (.bool b):=_root_.id rfl
@[simp] theorem ari (f:EqF)(x y:OF):pNe f x y ls env=ob (f (x ls env) (y ls env)) fun b=>some (.bool (!b)):=_root_.id rfl
@[simp] theorem acy (x:OF):uh x ls env=kF (x ls env) fun b=>some (.bool (!b)):=_root_.id rfl
@[simp] theorem acz (x:OF):Qb x ls env=um (x ls env) fun k n=>some (.int k (jH k (0 - n))):=_root_.id rfl
@[simp] theorem abq (k:IntKind)(x:OF):iC k x ls env=um (x ls env) fun _ n=>some (.int k (jH k n)):=_root_.id rfl
@[simp] theorem Rf (t:TypeId)(x:OF):uy t x ls env=some (.iface t (x ls env)):=_root_.id rfl
@[simp] theorem abr (fn:Fn)(a b:List OF):bH fn a b ls env=some (.func fn (evs a ls env) (evs b ls env)):=_root_.id rfl
@[simp] theorem GZ (x:OF):aZ x ls env=qC (x ls env):=_root_.id rfl
@[simp] theorem Qk (i o:Nat):qC (.ptr i o)=some (.ptr i o):=_root_.id rfl
@[simp] theorem JZ (f:FuncId)(a b:List l8):qC (.func (.func f) a b)=some (.func (.func f) a b):=_root_.id rfl
@[simp] theorem Rh (o:Nat)(x:OF):F8 o x ls env=lT (x ls env) fun id off=>some (.ptr id (off + o)):=_root_.id rfl
@[simp] theorem abt (off:Nat)(x:OF):Bg off x ls env=wF (x ls env) fun cs=>cs[off]?:=by
 show wF (x ls env) (fun cs=>uj off cs)=_
 simp
@[simp] theorem abu (off k:Nat)(x:OF):EO off k x ls env=wF (x ls env) fun cs=>ob (takeN k (cs.drop off)) fun l=>some (.agg l):=by
 show wF (x ls env) (fun cs=>ob (takeN k (iB off cs)) fun l=>some (l8.agg l))=_
 simp
@[simp] theorem Ql {α:Type}(l:List α):takeN 0 l=some []:=_root_.id rfl
@[simp] theorem Qm {α:Type}(n:Nat)(x:α)(l:List α):takeN (n + 1) (x :: l)=ob (takeN n l) fun r=>some (x :: r):=_root_.id rfl
@[simp] theorem acA (x:OF)(i:Nat):pExt x i ls env=Gv (x ls env) fun l=>l[i]?:=by
 show Gv (x ls env) (fun l=>uj i l)=_
 simp
@[simp] theorem acB (x:OF):lQ x ls env=vSl (x ls env) (some (.int .i64 0)) (fun _ _ n _=>some (.int .i64 n)) (fun _ _ n _=>some (.int .i64 n)):=_root_.id rfl
@[simp] theorem abv (x:OF):zW x ls env=zh (x ls env) fun s=>some (.int .i64 s.length):=by
 show zh (x ls env) (fun s=>some (l8.int .i64 (.ofNat (len' s))))=_
 simp
@[simp] theorem acC (x:OF):QF x ls env=vSl (x ls env) (some (.int .i64 0)) (fun _ _ _ c=>some (.int .i64 c)) (fun _ _ _ _=>none):=_root_.id rfl
theorem tK (len i:Nat)(k:Nat→Option β)(h:i < len):idx len (.int .i64 i) k=k i:=by
 show bi (Nat.blt i len) (k i) none=_
 rw [show Nat.blt i len=true from Nat.blt_eq.mpr h];rfl
@[simp] theorem Ri (es:Nat)(x i:OF):H8 es x i ls env=vSl (x ls env) none (fun id off len _=>idx len (i ls env) fun k=>some (.ptr id (off + k * es)))
  (fun id off len _=>idx len (i ls env) fun k=>some (.ptr id (off + k * es))):=rfl
@[simp] theorem He (es n:Nat)(x i:OF):au es n x i ls env=lT (x ls env) fun id off=>idx n (i ls env) fun k=>some (.ptr id (off + k * es)):=_root_.id rfl
@[simp] theorem acD (cs:List l8):lay [] ls env cs=some cs:=_root_.id rfl
theorem FX (p:Nat×Nat×OF)(l:List (Nat×Nat×OF))(cs:List l8):lay (p :: l) ls env cs =
  bi (Nat.beq (len' (p.2.2 ls env).cells) p.2.1) (bi (Nat.ble (Nat.add p.1 p.2.1) (len' cs)) (lay l ls env (lS p.1 (p.2.2 ls env).cells cs)) none) none:=rfl
@[simp] theorem Rj (z:List l8)(ps:List (Nat×Nat×OF)):I9 z ps ls env=ob (lay ps ls env z) fun l=>some (.agg l):=_root_.id rfl
noncomputable def ld1 (b:Option Blk)(off:Nat):Option l8:=X5 b fun rs n rows=>cell1 rs n rows off
noncomputable def ldN (b:Option Blk)(off k:Nat):Option l8:=X5 b fun rs n rows=>ob (jJ rs n rows off k) fun l=>some (.agg l)
noncomputable def stB (b:Option Blk)(off:Nat)(vs:List l8):Option Blk:=X5 b fun rs n rows=>ob (aG rs n rows off vs) fun rows'=>some (.cells rs n rows')
@[simp] theorem Rk (a:OF):dn a ls env m=lT (a ls env) fun id off=>ld1 (m.get id) off:=_root_.id rfl
@[simp] theorem Rm (k:Nat)(a:OF):J9 k a ls env m=lT (a ls env) fun id off=>ldN (m.get id) off k:=_root_.id rfl
@[simp] theorem jf (rs n:Nat)(rows:T (List l8))(k:Nat→Nat→T (List l8)→Option β):X5 (some (.cells rs n rows)) k=k rs n rows:=_root_.id rfl
@[simp] theorem arj (es:List (l8×l8))(k:List (l8×l8)→Option β):vEs (some (.map es)) k=k es:=_root_.id rfl
theorem jg {rs n:Nat}{rows:T (List l8)}{i j:Nat}{row:List l8}(hj:j < rs)(hi:i < n)(h:rows.get i=some row):cell1 rs n rows (i * rs + j)=row[j]?:=by
 unfold cell1
 have h1:Nat.div (i * rs + j) rs=i:=by show (i * rs + j) / rs=i;rw [Nat.mul_comm,Nat.mul_add_div (by omega),Nat.div_eq_of_lt hj];rfl
 have h2:Nat.mod (i * rs + j) rs=j:=by show (i * rs + j) % rs=j;rw [Nat.mul_comm,Nat.mul_add_mod,Nat.mod_eq_of_lt hj]
 rw [h1,h2,h,show Nat.blt i n=true from Nat.blt_eq.mpr hi]
 exact fA _ _
theorem rF {rs n:Nat}{rows:T (List l8)}{i j k:Nat}{row:List l8}(hj:j < rs)(hi:i < n)(h:rows.get i=some row)(hl:row.length=rs)(hk:j + k≤rs):
  jJ rs n rows (i * rs + j) k=some ((row.drop j).take k):=by
 unfold jJ
 have h1:Nat.div (i * rs + j) rs=i:=by show (i * rs + j) / rs=i;rw [Nat.mul_comm,Nat.mul_add_div (by omega),Nat.div_eq_of_lt hj];rfl
 have h2:Nat.mod (i * rs + j) rs=j:=by show (i * rs + j) % rs=j;rw [Nat.mul_comm,Nat.mul_add_mod,Nat.mod_eq_of_lt hj]
 rw [h1,h2,h,show Nat.blt i n=true from Nat.blt_eq.mpr hi]
 simp only [bn,Q7,eG]
 cases hz:Nat.beq j 0 with
 | false=>simp only [Y1];exact fM _ _ (by simp;omega)
 | true=>
  have hz:=Nat.eq_of_beq_eq_true hz
  subst hz
  simp only [bn]
  cases hk':Nat.beq k rs with
  | true=>have hk':=Nat.eq_of_beq_eq_true hk';subst hk';simp [hl.symm]
  | false=>simp only [Y1,List.drop_zero];exact fM _ _ (by omega)
end
theorem div_lt {a b:Nat}(h:a < b):Nat.div a b=0:=Nat.div_eq_of_lt h
theorem mod_lt {a b:Nat}(h:a < b):Nat.mod a b=a:=Nat.mod_eq_of_lt h
@[simp] theorem abw (cs:List l8)(off:Nat):ld1 (some (C9 cs)) off=cs[off]?:=by
 show cell1 (len' cs) 1 (.nd .e cs .e) off=_
 rw [O4]
 unfold cell1
 by_cases h:off < cs.length
 ·rw [div_lt h,mod_lt h]
  exact fA _ _
 ·rw [show cs[off]?=none from by simp;omega]
  by_cases h0:cs.length=0
  ·rw [h0,show Nat.div off 0=0 from Nat.div_zero off,show Nat.mod off 0=off from Nat.mod_zero off]
   show uj off cs=none
   rw [fA];simp;omega
  ·have:1≤Nat.div off cs.length:=(Nat.one_le_div_iff (by omega)).2 (by omega)
   rw [show Nat.blt (Nat.div off cs.length) 1=false from by
    cases hb:Nat.blt (Nat.div off cs.length) 1 with
    | false=>rfl
    | true=>have:=Nat.blt_eq.mp hb;omega]
theorem u6 {cs:List l8}{off k:Nat}(h:off + k≤cs.length)(h0:off < cs.length):ldN (some (C9 cs)) off k=some (.agg ((cs.drop off).take k)):=by
 show ob (jJ (len' cs) 1 (.nd .e cs .e) off k) (fun l=>some (l8.agg l))=_
 have:=rF (rs:=cs.length) (n:=1) (rows:=.nd .e cs .e) (i:=0) (j:=off) (k:=k) (row:=cs) h0 (by omega) rfl rfl h
 rw [Nat.zero_mul,Nat.zero_add] at this
 rw [O4,this];rfl
theorem u7 {cs vs:List l8}{off:Nat}(h:off + vs.length≤cs.length)(h0:off < cs.length):stB (some (C9 cs)) off vs=some (C9 (cs.take off ++ (vs ++ cs.drop (off + vs.length)))):=by
 show ob (aG (len' cs) 1 (.nd .e cs .e) off vs) (fun rows'=>some (Blk.cells (len' cs) 1 rows'))=_
 have h1:Nat.ble (Nat.add off vs.length) cs.length=true:=Nat.ble_eq_true_of_le h
 have h2:aG cs.length 1 (.nd .e cs .e) off vs=some (T.nd .e (lS off vs cs) .e):=by
  unfold aG
  rw [div_lt h0,mod_lt h0,O4]
  show bi (Nat.ble (Nat.add off vs.length) cs.length) (some (T.nd .e (lS off vs cs) .e)) none=_
  rw [h1];rfl
 rw [O4,h2,gy off vs cs (by omega)]
 show some (Blk.cells cs.length 1 _)=some (Blk.cells (len' _) 1 _)
 rw [O4]
 congr 2
 simp
 omega
def Mem.Ok (m:Mem):Prop:=T.Ok m.t m.next
theorem Mem.Ok.new {m:Mem}(h:m.Ok)(b:Blk):(m.new b).Ok:=T.Ok.push h b
theorem Mem.Ok.set {m:Mem}(h:m.Ok){i:Nat}(hi:i < m.next)(b:Blk):(m.set i b).Ok:=T.Ok.put h i b hi
theorem P9 {m:Mem}(h:m.Ok)(b:Blk){i j:Nat}(hj:j < m.next)(hi:i=j):(m.set j b).get i=some b:=by rw [Mem.dQ h hj,if_pos hi]
theorem Z8 {m:Mem}(h:m.Ok)(b:Blk){i j:Nat}(hj:j < m.next)(hi:i≠j):(m.set j b).get i=m.get i:=by rw [Mem.dQ h hj,if_neg hi]
theorem Z9 {β:Type}{m:Mem}{id off:Nat}{vs:List l8}{k:Mem→Option β}(hl:m.lim≤id)(h1:ah vs=true):storeAt m id off vs k=ob (stB (m.get id) off vs) fun b=>k (m.set id b):=by
 unfold storeAt
 rw [show Nat.blt id m.lim=false from by
  cases hb:Nat.blt id m.lim with
  | false=>rfl
  | true=>have:=Nat.blt_eq.mp hb;omega,h1]
 simp only [Y1,bn]
 unfold stB
 match m.get id with
 | some (.cells rs n rows)=>
  show ob (aG rs n rows off vs) _=ob (ob (aG rs n rows off vs) _) _
  cases aG rs n rows off vs <;> rfl
 | some .void | some .dead | some (.map _) | some (.iter ..) | some (.tail _) | some (.loop ..) | some .deferred | none=>rfl
theorem CK (sz:Nat)(a x:OF)(cf:K7)(ls:List l8)(env:T l8)(m:Mem):J4 sz a x cf ls env m=lT (a ls env) fun id off=>
  bi (Nat.beq (x ls env).cells.length sz) (storeAt m id off (x ls env).cells fun m'=>some [⟨.undef,m'⟩]) none:=by
 show lT (a ls env) (fun id off=>bi (Nat.beq (len' (x ls env).cells) sz) (storeAt m id off (x ls env).cells fun m'=>one .undef m') none)=_
 simp only [O4];rfl
@[simp] theorem Qn:ah []=true:=_root_.id rfl
@[simp] theorem Ka (v:l8)(l:List l8):ah (v :: l)=bi (J5 v) (ah l) false:=_root_.id rfl
section
variable (cf:K7)(ls:List l8)(env:T l8)(m:Mem)(d:l8→T l8→T l8)(k:RC)
@[simp] theorem abx:o8 cf ls env m=some [⟨env,m,none,[]⟩]:=_root_.id rfl
@[simp] theorem ark (f:PF):rcP f d k cf ls env m=ob (f ls env) fun v=>k cf (v :: ls) (d v env) m:=_root_.id rfl
@[simp] theorem acE (f:PF):l9 f k cf ls env m=ob (f ls env) fun v=>k cf (v :: ls) env m:=_root_.id rfl
@[simp] theorem arl (f:RF):rcR f d k cf ls env m=ob (f ls env m) fun v=>k cf (v :: ls) (d v env) m:=_root_.id rfl
@[simp] theorem acF (f:RF):D6 f k cf ls env m=ob (f ls env m) fun v=>k cf (v :: ls) env m:=_root_.id rfl
@[simp] theorem Rn:Ey m none=m:=_root_.id rfl
@[simp] theorem Ro (b:Blk):Ey m (some b)=m.new b:=_root_.id rfl
@[simp] theorem arn (f:LF):rcL f d k cf ls env m=ob (f ls env m.next) fun r=>k cf (r.1 :: ls) (d r.1 env) (Ey m r.2):=_root_.id rfl
@[simp] theorem acG (f:LF):Q9 f k cf ls env m=ob (f ls env m.next) fun r=>k cf (r.1 :: ls) env (Ey m r.2):=_root_.id rfl
@[simp] theorem aro (f:EF):rcE f d k cf ls env m=bnd (f cf ls env m) fun r=>fZ r.v (fun x=>some [⟨env,r.m,some x,[]⟩]) (k cf (r.v :: ls) (d r.v env) r.m):=_root_.id rfl
@[simp] theorem acH (f:EF):F4 f k cf ls env m=bnd (f cf ls env m) fun r=>fZ r.v (fun x=>some [⟨env,r.m,some x,[]⟩]) (k cf (r.v :: ls) env r.m):=_root_.id rfl
@[simp] theorem Rp (z:List l8)(i:Nat):aR z ls env i=some (.ptr i 0,some (C9 z)):=_root_.id rfl
@[simp] theorem acI (x:OF)(i:Nat):ES x ls env i=some (.ptr i 0,some (C9 (x ls env).cells)):=_root_.id rfl
@[simp] theorem Rq (i:Nat):iD ls env i=some (.map i,some (.map [])):=_root_.id rfl
@[simp] theorem Rs (l:List l8):(l8.agg l).cells=l:=_root_.id rfl
@[simp] theorem Rt (k:IntKind)(n:Int):(l8.int k n).cells=[.int k n]:=_root_.id rfl
@[simp] theorem Qo (b:Bool):(l8.bool b).cells=[.bool b]:=_root_.id rfl
@[simp] theorem Ru (s:List UInt8):(l8.str s).cells=[.str s]:=_root_.id rfl
@[simp] theorem Rv (i o:Nat):(l8.ptr i o).cells=[.ptr i o]:=_root_.id rfl
@[simp] theorem Rw (i:Nat):(l8.map i).cells=[.map i]:=_root_.id rfl
@[simp] theorem cells_func (f:Fn)(a b:List l8):(l8.func f a b).cells=[.func f a b]:=_root_.id rfl
@[simp] theorem Kc (a b c d:Nat):(l8.slice a b c d).cells=[.slice a b c d]:=_root_.id rfl
@[simp] theorem Hf (a b c d:Nat):(l8.sliceU a b c d).cells=[.sliceU a b c d]:=_root_.id rfl
@[simp] theorem ED:l8.nilSlice.cells=[.nilSlice]:=_root_.id rfl
@[simp] theorem aby (f:FuncId)(as:List OF):D5 f as cf ls env m=cf (.func f) (evs as ls env) m:=_root_.id rfl
@[simp] theorem Rx (f:OF)(as:List OF):bJ f as cf ls env m=Jm cf m (evs as ls env) (f ls env):=_root_.id rfl
@[simp] theorem Qp (as:List l8)(f:FuncId)(a b:List l8):Jm cf m as (.func (.func f) a b)=cf (.func f) (a ++ (as ++ b)) m:=by
 show cf (.func f) (gq a (gq as b)) m=_
 simp
end
@[simp] theorem abz (b:Bool):isB true (.bool b)=b:=by cases b <;> rfl
@[simp] theorem Ry (b:Bool):isB false (.bool b)=!b:=by cases b <;> rfl
section
variable (w:Bool)(x:OF)(ls:List l8)(env:T l8)(m:Mem)
@[simp] theorem atL (f:PF):gP x w f ls env=bi (isB w (x ls env)) (f ls env) (some .undef):=_root_.id rfl
@[simp] theorem arp (f:RF):gRd x w f ls env m=bi (isB w (x ls env)) (f ls env m) (some .undef):=_root_.id rfl
@[simp] theorem arq (f:LF)(i:Nat):gLk x w f ls env i=bi (isB w (x ls env)) (f ls env i) (some (.undef,none)):=_root_.id rfl
@[simp] theorem atM (f:EF)(cf:K7):gE x w f cf ls env m=bi (isB w (x ls env)) (f cf ls env m) (some [⟨.undef,m⟩]):=_root_.id rfl
end
@[simp] theorem T.abA {α:Type}(x:α)(t:T α)(i:Nat):T.rep x 0 t i=t:=_root_.id rfl
attribute [simp] T.rZ T.P6 T.Y2
section
variable (cf:K7)(fu:Nat)(ir:Option Nat)(env:T l8)(m:Mem)(k:List Mk)
@[simp] theorem acJ (x:R7):qc x env m k=some [⟨x,env,m,k,none⟩]:=_root_.id rfl
@[simp] theorem Rz:A9 cf fu ir env m k=some [⟨.normal,env,m,k,none⟩]:=_root_.id rfl
@[simp] theorem abB (r:RC):j3 r cf fu ir env m k=bnd (r cf [] env m) (jL k):=_root_.id rfl
@[simp] theorem RA:jL k ⟨env,m,none,[]⟩=some [⟨.normal,env,m,k,none⟩]:=_root_.id rfl
@[simp] theorem RB (n:Nat)(r:DC):H7 n r cf fu ir env m k=bnd (r cf m.next [] env (reserve n m) [reserve n m]) (jL k):=_root_.id rfl
noncomputable def abC (b:SC)(cf:K7)(fu:Nat)(ir:Option Nat)(o:Out):Option (List Out):=R7.rec (b cf fu ir o.env o.m o.marks) (fun _=>some [o]) (some [o]) o.x
@[simp] theorem abD (a b:SC):d9 a b cf fu ir env m k=bnd (a cf fu ir env m k) (abC b cf fu ir):=_root_.id rfl
@[simp] theorem Ke (b:SC)(p:Option l8):abC b cf fu ir ⟨.normal,env,m,k,p⟩=b cf fu ir env m k:=_root_.id rfl
@[simp] theorem RD (b:SC)(i:Nat)(p:Option l8):abC b cf fu ir ⟨.exit i,env,m,k,p⟩=some [⟨.exit i,env,m,k,p⟩]:=_root_.id rfl
@[simp] theorem abE (b:SC)(p:Option l8):abC b cf fu ir ⟨.ret,env,m,k,p⟩=some [⟨.ret,env,m,k,p⟩]:=_root_.id rfl
@[simp] theorem RG (c:OF)(a b:SC):x9 c a b cf fu ir env m k=kF (c [] env) fun t=>bi t (a cf fu ir env m k) (b cf fu ir env m k):=_root_.id rfl
noncomputable def abF (id:Nat)(o:Out):Option (List Out):=R7.rec (some [o]) (fun id'=>bi (Nat.beq id id') (qc .normal o.env o.m o.marks) (some [o])) (some [o]) o.x
@[simp] theorem Qq (id:Nat)(a:SC):p8 id a cf fu ir env m k=bnd (a cf fu ir env m k) (abF id):=_root_.id rfl
@[simp] theorem Kg (id:Nat)(p:Option l8):abF id ⟨.normal,env,m,k,p⟩=some [⟨.normal,env,m,k,p⟩]:=_root_.id rfl
@[simp] theorem abG (id:Nat)(p:Option l8):abF id ⟨.ret,env,m,k,p⟩=some [⟨.ret,env,m,k,p⟩]:=_root_.id rfl
@[simp] theorem RH (id i:Nat)(p:Option l8):abF id ⟨.exit i,env,m,k,p⟩=bi (Nat.beq id i) (some [⟨.normal,env,m,k,none⟩]) (some [⟨.exit i,env,m,k,p⟩]):=_root_.id rfl
@[simp] theorem RI (a:SC):F7 a cf fu ir env m k=aW (fun env m k=>a cf fu ir env m k) fu env m k:=_root_.id rfl
noncomputable def FY (f:T l8→Mem→List Mk→Option (List Out))(o:Out):Option (List Out):=R7.rec (f o.env o.m o.marks) (fun _=>some [o]) (some [o]) o.x
theorem G7 (body:T l8→Mem→List Mk→Option (List Out))(n:Nat):aW body (n + 1) env m k=bnd (body env m k) (FY (aW body n)):=rfl
@[simp] theorem Hg (f:T l8→Mem→List Mk→Option (List Out))(p:Option l8):FY f ⟨.normal,env,m,k,p⟩=f env m k:=_root_.id rfl
@[simp] theorem Qr (f:T l8→Mem→List Mk→Option (List Out))(i:Nat)(p:Option l8):FY f ⟨.exit i,env,m,k,p⟩=some [⟨.exit i,env,m,k,p⟩]:=_root_.id rfl
@[simp] theorem RJ (f:T l8→Mem→List Mk→Option (List Out))(p:Option l8):FY f ⟨.ret,env,m,k,p⟩=some [⟨.ret,env,m,k,p⟩]:=_root_.id rfl
@[simp] theorem RL (id:Nat):aA id cf fu ir env m k=some [⟨.exit id,env,m,k,none⟩]:=_root_.id rfl
@[simp] theorem abH:D7 cf fu ir env m k=some [⟨.ret,env,m,k,none⟩]:=_root_.id rfl
end
section
variable (cf:K7)(b:Nat)(ls:List l8)(env:T l8)(m:Mem)(gs:List Mem)(d:l8→T l8→T l8)(k:DC)(c:Nat)
attribute [simp] vK vL
@[simp] theorem abI:K9 cf b ls env m gs=some [⟨env,m,none,[]⟩]:=_root_.id rfl
@[simp] theorem ars (f:PF):dcP f d k cf b ls env m gs=ob (f ls env) fun v=>k cf b (v :: ls) (d v env) m gs:=_root_.id rfl
@[simp] theorem aru (f:RF):dcR f c d k cf b ls env m gs=ob (f ls env (hd m gs)) fun v=>bi (stable f ls env v c (tl gs)) (k cf b (v :: ls) (d v env) m gs) none:=_root_.id rfl
@[simp] theorem arv (f:LF):dcL f c d k cf b ls env m gs=ob (f ls env (b + c)) fun r=>bi (isVoid (m.get (b + c))) (bi (iE (b + c) gs) (k cf b (r.1 :: ls) (d r.1 env) (QL m (b + c) r.2) gs) none) none:=_root_.id rfl
@[simp] theorem arw (f:EF):dcE f d k cf b ls env m gs=Jp (f cf ls env m) fun r=>fZ r.v (fun _=>none) (k cf b (r.v :: ls) (d r.v env) r.m (r.m :: gs)):=_root_.id rfl
@[simp] theorem acK (g:Mem):hd m (g :: gs)=g:=_root_.id rfl
@[simp] theorem acL (g:Mem):tl (g :: gs)=gs:=_root_.id rfl
@[simp] theorem RN (i:Nat)(x:Blk):QL m i (some x)=m.set i x:=_root_.id rfl
@[simp] theorem Kh:isVoid (some .void)=true:=_root_.id rfl
@[simp] theorem Ki (i:Nat):iE i []=true:=_root_.id rfl
@[simp] theorem Hl (i:Nat)(g:Mem):iE i (g :: gs)=bi (isVoid (g.get i)) (iE i gs) false:=_root_.id rfl
@[simp] theorem Kj (f:RF)(v:l8):stable f ls env v 0 gs=true:=_root_.id rfl
@[simp] theorem Kk (f:RF)(v:l8)(n:Nat)(g:Mem):stable f ls env v (n + 1) (g :: gs)=bi (Option.rec false (fun u=>dz 100 u v) (f ls env g)) (stable f ls env v n gs) false:=_root_.id rfl
end
@[simp] theorem EG (env:T l8):X6 [] [] env=some env:=_root_.id rfl
@[simp] theorem CP (j:Option Nat)(js:List (Option Nat))(v:l8)(vs:List l8)(env:T l8):X6 (j :: js) (v :: vs) env=X6 js vs (trD j v env):=_root_.id rfl
@[simp] theorem RO (dcf:gZ)(rs:List rV)(env:T l8)(m:Mem):leave dcf rs ⟨.ret,env,m,[],none⟩=ob (results rs env m) fun l=>some [⟨result l,m⟩]:=_root_.id rfl
@[simp] theorem Ho (dcf:gZ)(rs:List rV)(env:T l8)(m:Mem):leave dcf rs ⟨.normal,env,m,[],none⟩=ob (results rs env m) fun l=>some [⟨result l,m⟩]:=_root_.id rfl
@[simp] theorem Kl (env:T l8)(m:Mem):results [] env m=some []:=_root_.id rfl
@[simp] theorem results_tmp (j:Nat)(rs:List rV)(env:T l8)(m:Mem):results (.tmp j :: rs) env m=ob (env.get j) fun v=>ob (results rs env m) fun l=>some (v :: l):=_root_.id rfl
@[simp] theorem Qs:result []=.tuple []:=_root_.id rfl
@[simp] theorem Qt (v:l8):result [v]=v:=_root_.id rfl
@[simp] theorem Qu (v x:l8)(l:List l8):result (v :: x :: l)=.tuple (v :: x :: l):=_root_.id rfl
structure Ext (m m':Mem):Prop where
 ok:T.Ok m'.t m'.next
 next:m.next≤m'.next
 lim:m'.lim=m.lim
 old:∀i,i < m.next→m'.get i=m.get i
theorem Ext.refl {m:Mem}(h:T.Ok m.t m.next):Ext m m:=⟨h,Nat.le_refl _,rfl,fun _ _=>rfl⟩
theorem Ext.trans {a b c:Mem}(h:Ext a b)(k:Ext b c):Ext a c:=
 ⟨k.ok,Nat.le_trans h.next k.next,k.lim.trans h.lim,fun i hi=>(k.old i (Nat.lt_of_lt_of_le hi h.next)).trans (h.old i hi)⟩
theorem Ext.new {a m:Mem}(h:Ext a m)(b:Blk):Ext a (m.new b):=
 ⟨h.ok.push b,Nat.le_succ_of_le h.next,h.lim,fun i hi=>by rw [Mem.aI h.ok,if_neg (by have:=h.next;omega)];exact h.old i hi⟩
theorem Ext.set {a m:Mem}(h:Ext a m){i:Nat}(hi:i < m.next)(hn:a.next≤i)(b:Blk):Ext a (m.set i b):=
 ⟨h.ok.put _ _ hi,h.next,h.lim,fun j hj=>by rw [Mem.dQ h.ok hi,if_neg (by omega)];exact h.old j hj⟩
theorem Ext.get {a m:Mem}(h:Ext a m){i:Nat}{b:Blk}(ha:T.Ok a.t a.next)(hg:a.get i=some b):m.get i=some b:=
 (h.old i (Mem.K6 ha hg)).trans hg
def bV (m:Mem)(v:l8)(xs:List Int):Prop:=
 (v=.nilSlice∧xs=[])∨∃id,((∃c,v=.slice id 0 xs.length c)∨∃es,v=.sliceU id 0 xs.length es)∧id < m.next∧(xs=[]∨∃n rows,m.get id=some (.cells 1 n rows)∧xs.length≤n∧∀i (h:i < xs.length),rows.get i=some [.int .i64 xs[i]])
theorem bV.ext {m m':Mem}(h:Ext m m'){v:l8}{xs:List Int}(hv:bV m v xs):bV m' v xs:=by
 rcases hv with hv | ⟨id,h1,h2,h3⟩
 ·exact .inl hv
 ·refine .inr ⟨id,h1,Nat.lt_of_lt_of_le h2 h.next,?_⟩
  rcases h3 with h3 | ⟨n,rows,h4,h5,h6⟩
  ·exact .inl h3
  ·exact .inr ⟨n,rows,(h.old id h2).trans h4,h5,h6⟩
theorem Km {n i:Nat}{rows:T (List l8)}{v:l8}(h:i < n)(hr:rows.get i=some [v]):ld1 (some (.cells 1 n rows)) i=some v:=by
 have:=jg (rs:=1) (n:=n) (rows:=rows) (i:=i) (j:=0) (by omega) h hr
 rw [Nat.mul_one] at this
 exact this
theorem Q6 {i:Nat}(h:i < 4611686018427387904):w64 ((i:Int) + 1)=((i + 1:Nat):Int):=by rw [eX (by omega) (by omega)];rfl
theorem bV.at {m:Mem}{v:l8}{xs:List Int}(h:bV m v xs){i:Nat}(hi:i < xs.length):
  ∃id,vSl v none (fun id off len _=>idx len (.int .i64 i) fun k=>some (l8.ptr id (off + k))) (fun id off len _=>idx len (.int .i64 i) fun k=>some (l8.ptr id (off + k)))=some (.ptr id i)∧id < m.next∧ld1 (m.get id) i=some (.int .i64 xs[i]):=by
 rcases h with⟨_,rfl⟩ | ⟨id,h1,h2,h3⟩
 ·simp at hi
 ·rcases h3 with rfl | ⟨n,rows,h4,h5,h6⟩
  ·simp at hi
  ·refine⟨id,?_,h2,by rw [h4];exact Km (by omega) (h6 i hi)⟩
   rcases h1 with⟨c,rfl⟩ | ⟨c,rfl⟩
   ·simp only [vT]
    rw [tK _ _ _ hi];simp
   ·simp only [rE]
    rw [tK _ _ _ hi];simp
theorem bV.cells {m:Mem}{v:l8}{xs:List Int}(h:bV m v xs):v.cells=[v]:=by
 rcases h with⟨rfl,rfl⟩ | ⟨id,⟨c,rfl⟩ | ⟨c,rfl⟩,_⟩ <;> rfl
theorem bV.pan {m:Mem}{v:l8}{xs:List Int}(h:bV m v xs){β:Type}(p:l8→β)(q:β):fZ v p q=q:=by
 rcases h with⟨rfl,rfl⟩ | ⟨id,⟨c,rfl⟩ | ⟨c,rfl⟩,_⟩ <;> rfl
theorem bV.J5 {m:Mem}{v:l8}{xs:List Int}(h:bV m v xs):Go.AM.J5 v=true:=by
 rcases h with⟨rfl,rfl⟩ | ⟨id,⟨c,rfl⟩ | ⟨c,rfl⟩,_⟩ <;> rfl
theorem bV.len {m:Mem}{v:l8}{xs:List Int}(h:bV m v xs):vSl v (some (l8.int .i64 0)) (fun _ _ n _=>some (.int .i64 n)) (fun _ _ n _=>some (.int .i64 n))=some (.int .i64 xs.length):=by
 rcases h with⟨rfl,rfl⟩ | ⟨id,⟨c,rfl⟩ | ⟨c,rfl⟩,_⟩ <;> rfl
theorem bV.lenOf {m:Mem}{v:l8}{xs:List Int}(h:bV m v xs):Go.AM.lenOf v=some xs.length:=by
 rcases h with⟨rfl,rfl⟩ | ⟨id,⟨c,rfl⟩ | ⟨c,rfl⟩,_⟩ <;> rfl
def ints (xs:List Int):List l8:=xs.map (l8.int .i64)
theorem tL {n:Nat}{rows:T (List l8)}{xs:List Int}(h:∀i (h:i < xs.length),rows.get i=some [.int .i64 xs[i]])(hn:xs.length≤n):
  ∀(j i:Nat),i + j=xs.length→U5 1 n rows j i=some (ints (xs.drop i)):=by
 intro j
 induction j with
 | zero=>intro i hi;rw [List.drop_of_length_le (by omega)];rfl
 | succ j ih=>
  intro i hi
  have hl:i < xs.length:=by omega
  show ob (cell1 1 n rows i) (fun v=>ob (U5 1 n rows j (i + 1)) fun l=>some (v :: l))=_
  have e:cell1 1 n rows i=some (.int .i64 xs[i]):=by
   have:=jg (rs:=1) (n:=n) (rows:=rows) (i:=i) (j:=0) (by omega) (by omega) (h i hl)
   rwa [Nat.mul_one] at this
  rw [e,ih (i + 1) (by omega),List.drop_eq_getElem_cons hl];rfl
theorem bV.read {m:Mem}{v:l8}{xs:List Int}(h:bV m v xs):R8 m 1 xs.length v=some (ints xs):=by
 rcases h with⟨rfl,rfl⟩ | ⟨id,h1,h2,h3⟩
 ·rfl
 ·rcases h3 with rfl | ⟨n,rows,h4,h5,h6⟩
  ·rcases h1 with⟨c,rfl⟩ | ⟨c,rfl⟩ <;> rfl
  ·have key:R6 m id 0 (Nat.mul xs.length 1)=some (ints xs):=by
    have e:Nat.mul xs.length 1=xs.length:=Nat.mul_one _
    rw [e]
    cases hx:xs.length with
    | zero=>rw [List.length_eq_zero_iff.1 hx];rfl
    | succ k=>
     show X5 (m.get id) (fun rs k' rows=>U5 rs k' rows (k + 1) 0)=_
     rw [h4,jf,tL h6 h5 (k + 1) 0 (by omega)];rfl
   rcases h1 with⟨c,rfl⟩ | ⟨c,rfl⟩ <;> exact key
theorem pJ:∀(xs:List Int),rowsOf 1 xs.length (ints xs)=some (xs.map fun x=>[l8.int .i64 x])
 | []=>rfl
 | x :: xs=>by
  show ob (takeN 1 (ints (x :: xs))) (fun r=>ob (rowsOf 1 xs.length (iB 1 (ints (x :: xs)))) fun rest=>some (r :: rest))=_
  have e:iB 1 (ints (x :: xs))=ints xs:=rfl
  rw [e,pJ xs];rfl
theorem AO {m:Mem}(hm:T.Ok m.t m.next)(xs:List Int):∃m',grown m 1 xs.length (ints xs)=some [⟨.sliceU m.next 0 xs.length 1,m'⟩]∧Ext m m'∧bV m' (.sliceU m.next 0 xs.length 1) xs:=by
 refine⟨m.new (.cells 1 xs.length (T.ofList (xs.map fun x=>[l8.int .i64 x]))),?_,(Ext.refl hm).new _,.inr ⟨m.next,.inr ⟨1,rfl⟩,by simp,.inr ⟨xs.length,_,by rw [Mem.aI hm,if_pos rfl],Nat.le_refl _,fun i hi=>by rw [T.bN];simp [hi]⟩⟩⟩
 show ob (rowsOf 1 xs.length (ints xs)) _=_
 rw [pJ];rfl
end Go.AM
namespace Go.AM
open Go
namespace T
variable {α:Type}
theorem Kn {t:T α}{n:Nat}(h:Ok t n):∀i (x y:α),i≤n→(t.put i x).put i y=t.put i y:=by
 induction h with
 | e=>intro i x y hi;obtain rfl:i=0:=by omega
      rfl
 | @nd l r z n hl hr ihl ihr=>
  intro i x y hi
  cases i with
  | zero=>rfl
  | succ i=>
   rw [P6,P6]
   split
   ·rename_i h0;rw [P6,if_pos h0,ihl _ _ _ (by omega)]
   ·rename_i h0;rw [P6,if_neg h0,ihr _ _ _ (by omega)]
theorem put_comm {t:T α}{n:Nat}(h:Ok t n):∀i (x y:α),i < n→(t.put n x).put i y=(t.put i y).put n x:=by
 induction h with
 | e=>intro i x y hi;omega
 | @nd l r z n hl hr ihl ihr=>
  intro i x y hi
  cases i with
  | zero=>
   rw [P6,zn,P6]
   split <;> rfl
  | succ i=>
   rw [P6 (i:=n),P6 (i:=i)]
   by_cases hn:n % 2=0
   ·rw [if_pos hn,P6]
    by_cases h0:i % 2=0
    ·rw [if_pos h0,if_pos h0,P6,if_pos hn]
     have e:(n + 1) / 2=n / 2:=by omega
     rw [e] at hl ihl
     have:=ihl (i / 2) x y (by omega)
     rw [this]
    ·rw [if_neg h0,if_neg h0,P6,if_pos hn]
   ·rw [if_neg hn,P6]
    by_cases h0:i % 2=0
    ·rw [if_pos h0,if_pos h0,P6,if_neg hn]
    ·rw [if_neg h0,if_neg h0,P6,if_neg hn]
     have:=ihr (i / 2) x y (by omega)
     rw [this]
end T
theorem pK {α:Type}{p:List α→Prop}(h0:p [])(hs:∀l b,p l→p (l ++ [b])):∀l,p l:=by
 intro l
 have:p l.reverse.reverse:=by
  generalize l.reverse=r
  induction r with
  | nil=>exact h0
  | cons x r ih=>rw [List.reverse_cons];exact hs _ _ ih
 rwa [List.reverse_reverse] at this
noncomputable def ext (m:Mem)(l:List Blk):Mem:=l.foldl Mem.new m
theorem A8 (m:Mem)(b:Blk):m.new b=ext m [b]:=rfl
theorem C8 (m:Mem)(l l':List Blk):ext (ext m l) l'=ext m (l ++ l'):=by simp [ext]
theorem ext_nil (m:Mem):ext m []=m:=rfl
theorem aH (m:Mem)(l:List Blk)(b:Blk):ext m (l ++ [b])=(ext m l).new b:=by simp [ext]
@[simp] theorem zM (m:Mem)(l:List Blk):(ext m l).next=m.next + l.length:=by
 induction l using pK with
 | h0=>rfl
 | hs l b ih=>rw [aH,Mem.zo,ih];simp;omega
@[simp] theorem dY (m:Mem)(l:List Blk):(ext m l).lim=m.lim:=by
 induction l using pK with
 | h0=>rfl
 | hs l b ih=>rw [aH,Mem.Ju,ih]
theorem J3 {m:Mem}(hm:m.Ok)(l:List Blk):(ext m l).Ok:=by
 induction l using pK with
 | h0=>exact hm
 | hs l b ih=>rw [aH];exact ih.new b
theorem ext_get {m:Mem}(hm:m.Ok)(l:List Blk)(i:Nat):(ext m l).get i=if i < m.next then m.get i else l[i - m.next]?:=by
 induction l using pK with
 | h0=>
  rw [ext_nil]
  split
  ·rfl
  ·cases h:m.get i with
   | none=>simp
   | some b=>have:=Mem.K6 hm h;omega
 | hs l b ih=>
  rw [aH,Mem.aI (J3 hm l),ih,zM]
  by_cases h1:i < m.next
  ·rw [if_neg (by omega),if_pos h1,if_pos h1]
  ·rw [if_neg h1,if_neg h1]
   by_cases h2:i=m.next + l.length
   ·rw [if_pos h2,List.getElem?_append_right (by omega),show i - m.next - l.length=0 from by omega];rfl
   ·rw [if_neg h2]
    by_cases h3:i - m.next < l.length
    ·rw [List.getElem?_append_left h3]
    ·rw [List.getElem?_eq_none (by omega),List.getElem?_eq_none (by simp;omega)]
theorem j6 {m:Mem}(hm:m.Ok)(l:List Blk)(c:Nat):(ext m l).get (m.next + c)=l[c]?:=by
 rw [ext_get hm,if_neg (by omega),show m.next + c - m.next=c from by omega]
theorem j4 {m:Mem}(hm:m.Ok)(l:List Blk):(ext m l).get m.next=l[0]?:=j6 hm l 0
theorem F6 {m:Mem}(hm:m.Ok)(l:List Blk){i:Nat}(h:i < m.next):(ext m l).get i=m.get i:=by rw [ext_get hm,if_pos h]
theorem F3 {m:Mem}(hm:m.Ok)(l:List Blk):Ext m (ext m l):=⟨J3 hm l,by simp,by simp,fun i hi=>F6 hm l hi⟩
theorem Mem.Ko {m:Mem}(hm:m.Ok)(a b:Blk):(m.new a).set m.next b=m.new b:=by
 show (⟨(m.t.put m.next a).put m.next b,_,_⟩:Mem)=_
 rw [T.Kn hm _ _ _ (Nat.le_refl _)];rfl
theorem Mem.xQ {m:Mem}(hm:m.Ok)(a b:Blk){i:Nat}(h:i < m.next):(m.new a).set i b=(m.set i b).new a:=by
 show (⟨(m.t.put m.next a).put i b,_,_⟩:Mem)=⟨(m.t.put i b).put m.next a,_,_⟩
 rw [T.put_comm hm _ _ _ h];rfl
theorem l6 {m:Mem}(hm:m.Ok)(l:List Blk)(c:Nat)(b:Blk)(h:c < l.length):(ext m l).set (m.next + c) b=ext m (l.set c b):=by
 induction l using pK with
 | h0=>simp at h
 | hs l a ih=>
  rw [aH]
  by_cases h1:c < l.length
  ·rw [Mem.xQ (J3 hm l) _ _ (by rw [zM];omega),ih h1,List.set_append_left _ _ h1,aH]
  ·have:c=l.length:=by simp at h;omega
   subst this
   have e:m.next + l.length=(ext m l).next:=by simp
   rw [e,Mem.Ko (J3 hm l),List.set_append_right _ _ (Nat.le_refl _)]
   simp [aH]
theorem l5 {m:Mem}(hm:m.Ok)(l:List Blk)(b:Blk)(h:0 < l.length):(ext m l).set m.next b=ext m (l.set 0 b):=l6 hm l 0 b h
end Go.AM
namespace Go.AM
open Go
theorem U1 {α:Type}(a b:Nat)(x y:α):bi (Nat.beq a b) x y=if a=b then x else y:=mU a b x y
theorem vU {α:Type}(a b:Nat)(x y:α):bi (Nat.ble a b) x y=if a≤b then x else y:=by
 cases h:Nat.ble a b with
 | true=>rw [if_pos (Nat.le_of_ble_eq_true h)];rfl
 | false=>rw [if_neg (fun hh=>by rw [Nat.ble_eq_true_of_le hh] at h;cases h)];rfl
theorem CQ {α:Type}(a b:Nat)(x y:α):bi (Nat.blt a b) x y=if a < b then x else y:=vU (a + 1) b x y
theorem D9 (ls:List l8)(env:T l8)(p:Nat×Nat×OF)(l:List (Nat×Nat×OF))(cs:List l8):lay (p :: l) ls env cs =
  if (p.2.2 ls env).cells.length=p.2.1 then if p.1 + p.2.1≤cs.length then lay l ls env (cs.take p.1 ++ ((p.2.2 ls env).cells ++ cs.drop (p.1 + (p.2.2 ls env).cells.length))) else none else none:=by
 rw [FX,U1,O4,O4]
 split
 ·rename_i h
  show bi (Nat.ble (p.1 + p.2.1) cs.length) _ _=_
  rw [vU]
  split
  ·rename_i h2
   rw [gy _ _ _ (by omega)]
  ·rfl
 ·rfl
theorem o9 (sz:Nat)(a x:OF)(cf:K7)(ls:List l8)(env:T l8)(m:Mem):J4 sz a x cf ls env m=lT (a ls env) fun id off=>
  if (x ls env).cells.length=sz then storeAt m id off (x ls env).cells fun m'=>some [⟨.undef,m'⟩] else none:=by
 rw [CK];simp only [U1]
theorem F5 {β:Type}{m:Mem}(hm:m.Ok)(hl:m.lim≤m.next)(l:List Blk)(c off:Nat)(vs:List l8)(k:Mem→Option β):
  storeAt (ext m l) (m.next + c) off vs k=bi (ah vs) (ob (stB l[c]? off vs) fun b=>k (ext m (l.set c b))) none:=by
 cases h1:ah vs with
 | false=>
  unfold storeAt
  rw [h1]
  cases Nat.blt (m.next + c) (ext m l).lim <;> rfl
 | true=>
  rw [Z9 (by rw [dY];omega) h1,j6 hm,bn]
  by_cases hc:c < l.length
  ·congr 1
   funext b
   rw [l6 hm _ _ _ hc]
  ·rw [List.getElem?_eq_none (by omega)];rfl
theorem w9 {β:Type}{m:Mem}(hm:m.Ok)(hl:m.lim≤m.next)(l:List Blk)(off:Nat)(vs:List l8)(k:Mem→Option β):
  storeAt (ext m l) m.next off vs k=bi (ah vs) (ob (stB l[0]? off vs) fun b=>k (ext m (l.set 0 b))) none:=F5 hm hl l 0 off vs k
@[simp] theorem Hq (j:Nat)(k:Nat)(rs:List rV)(env:T l8)(m:Mem):results (.cell j (some k) :: rs) env m=ob (ob (env.get j) fun p=>lT p fun id off=>ldN (m.get id) off k) fun v=>ob (results rs env m) fun l=>some (v :: l):=id rfl
@[simp] theorem FZ (j:Nat)(rs:List rV)(env:T l8)(m:Mem):results (.cell j none :: rs) env m=ob (ob (env.get j) fun p=>lT p fun id off=>ld1 (m.get id) off) fun v=>ob (results rs env m) fun l=>some (v :: l):=id rfl
end Go.AM
namespace Go.AM
open Go
section
variable {α β:Type}
@[congr] theorem abJ {b b':Bool}{x x' y y':α}(hb:b=b')(h1:b'=true→x=x')(h2:b'=false→y=y'):bi b x y=bi b' x' y':=by
 subst hb
 cases b with
 | true=>exact h1 rfl
 | false=>exact h2 rfl
@[simp] theorem acM (b:Bool)(x:α):bi b x x=x:=by cases b <;> rfl
@[simp] theorem arx (b:Bool)(x y:α):bi (!b) x y=bi b y x:=by cases b <;> rfl
theorem z8 (b:Bool)(x y:α)(k:α→Option β):ob (bi b (some x) (some y)) k=k (bi b x y):=by cases b <;> rfl
theorem p9 (b:Bool)(x y:α)(k:α→Option (List β)):bnd (bi b (some [x]) (some [y])) k=k (bi b x y):=by cases b <;> rfl
theorem o7 (b:Bool)(x y:α)(k:α→Option β):Jp (bi b (some [x]) (some [y])) k=k (bi b x y):=by cases b <;> rfl
end
@[simp] theorem Kq (b c:Bool):bi b (l8.bool c) (l8.bool false)=.bool (b && c):=by cases b <;> rfl
@[simp] theorem Qv (b c:Bool):bi b (l8.bool true) (l8.bool c)=.bool (b || c):=by cases b <;> rfl
theorem Kr (b:Bool)(v w:l8)(m:Mem):bi b (⟨v,m⟩:VM) ⟨w,m⟩=⟨bi b v w,m⟩:=by cases b <;> rfl
@[simp] theorem acN {β:Type}(b:Bool)(v w:l8)(p:l8→β)(q:β):fZ (bi b v w) p q=bi b (fZ v p q) (fZ w p q):=by cases b <;> rfl
end Go.AM
namespace Go.AM
open Go
section
variable {α:Type}(a b c:Bool)(x y z:α)
@[simp] theorem acO:bi b (bi b x y) z=bi b x z:=by cases b <;> rfl
@[simp] theorem abK:bi b x (bi b y z)=bi b x z:=by cases b <;> rfl
@[simp] theorem acP:bi (b && c) (bi b x y) z=bi (b && c) x z:=by cases b <;> cases c <;> rfl
@[simp] theorem acQ:bi (b && c) (bi c x y) z=bi (b && c) x z:=by cases b <;> cases c <;> rfl
@[simp] theorem arz:bi (b || c) x (bi b y z)=bi (b || c) x z:=by cases b <;> cases c <;> rfl
@[simp] theorem arA:bi (b || c) x (bi c y z)=bi (b || c) x z:=by cases b <;> cases c <;> rfl
end
end Go.AM
namespace Go.AM
open Go
@[simp] theorem atN (b:Bool)(f f':T l8)(m m':Mem)(p p':Option l8)(k k':List Mk):bi b (⟨f,m,p,k⟩:EM) ⟨f',m',p',k'⟩=⟨bi b f f',bi b m m',bi b p p',bi b k k'⟩:=by cases b <;> rfl
@[simp] theorem atO (b:Bool)(l l' r r':T l8)(x x':l8):bi b (T.nd l x r) (T.nd l' x' r')=.nd (bi b l l') (bi b x x') (bi b r r'):=by cases b <;> rfl
@[simp] theorem arB (b:Bool)(v w:l8)(m m':Mem):bi b (⟨v,m⟩:VM) ⟨w,m'⟩=⟨bi b v w,bi b m m'⟩:=by cases b <;> rfl
end Go.AM
namespace Go.AM
open Go
@[simp] theorem RP (w:Bool):isB w .undef=false:=id rfl
theorem eY {i:Nat}(h0:0 < i)(h:i < 4611686018427387904):w64 ((i:Int) - 1)=((i - 1:Nat):Int):=by rw [eX (by omega) (by omega)];omega
def M9 (p:Nat→Bool):Nat→Nat→Bool
 | 0,_=>true
 | j + 1,i=>p i && M9 p j (i + 1)
def okB (xs:List Int)(i:Nat):Bool:=(decide (1≤xs.getD i 0) && decide (xs.getD i 0≤1099511627776)) && (decide (i=0) || decide (xs.getD (i - 1) 0 < xs.getD i 0))
theorem dh {xs:List Int}{i:Nat}(h:i < xs.length):xs.getD i 0=xs[i]:=by simp [List.getD,h]
end Go.AM
namespace Go.AM
open Go
@[simp] theorem RQ (ks:List PK)(a b:List l8):O6 ks (.agg a) (.agg b)=Y4 ks a b:=id rfl
@[simp] theorem RS:Y4 [] [] []=some true:=id rfl
@[simp] theorem RU (k:PK)(ks:List PK)(x y:l8)(a b:List l8):Y4 (k :: ks) (x :: a) (y :: b)=ob (Gx k x y) fun r=>bi r (Y4 ks a b) (some false):=id rfl
@[simp] theorem arC:Gx .i=T9:=id rfl
@[simp] theorem abL (k:IntKind)(a b:Int):T9 (.int k a) (.int k b)=some (decide (a=b)):=by
 show bi (kEq k k) (some (pY a b)) none=_
 rw [tJ,gB,show (a == b)=decide (a=b) from rfl];rfl
@[simp] theorem Kt (b c:Bool):bi b (some c) (some false)=some (b && c):=by cases b <;> rfl
theorem J6 (n:Nat)(k:IntKind)(i:Int):dz (n + 1) (.int k i) (.int k i)=true:=by
 show bi (kEq k k) (pY i i) false=true
 rw [tJ,gB];simp
theorem tN {m:Mem}{v:l8}{xs:List Int}(h:bV m v xs)(n:Nat):dz (n + 1) v v=true:=by
 rcases h with⟨rfl,rfl⟩ | ⟨id,⟨c,rfl⟩ | ⟨c,rfl⟩,_⟩
 ·rfl
 ·show bi (Nat.beq id id) (bi (Nat.beq 0 0) (bi (Nat.beq _ _) (Nat.beq _ _) false) false) false=true
  simp [U1]
 ·show bi (Nat.beq id id) (bi (Nat.beq 0 0) (bi (Nat.beq _ _) (Nat.beq _ _) false) false) false=true
  simp [U1]
theorem vV (f:l8→l8→Bool)(x y:l8)(a b:List l8):wC f (x :: a) (y :: b)=bi (f x y) (wC f a b) false:=rfl
theorem zN (f:l8→l8→Bool):wC f [] []=true:=rfl
theorem vW (n:Nat)(a b:List l8):dz (n + 1) (.agg a) (.agg b)=wC (dz n) a b:=rfl
end Go.AM
namespace Go.AM
open Go
section
variable {α β:Type}
@[congr] theorem atP {o o':Option α}{k:α→Option β}(h:o=o'):ob o k=ob o' k:=by rw [h]
@[congr] theorem arD {o o':Option (List α)}{k:α→Option (List β)}(h:o=o'):bnd o k=bnd o' k:=by rw [h]
@[congr] theorem acR {o o':Option (List α)}{k:α→Option β}(h:o=o'):Jp o k=Jp o' k:=by rw [h]
@[congr] theorem acS {v v':l8}{p:l8→β}{q:β}(h:v=v'):fZ v p q=fZ v' p q:=by rw [h]
@[congr] theorem acT {v v':l8}{k:Nat→Nat→Option β}(h:v=v'):lT v k=lT v' k:=by rw [h]
@[congr] theorem acU {v v':l8}{k:IntKind→Int→Option β}(h:v=v'):um v k=um v' k:=by rw [h]
@[congr] theorem abM {v v':l8}{k:Bool→Option β}(h:v=v'):kF v k=kF v' k:=by rw [h]
@[congr] theorem acV {v v':l8}{k:List l8→Option β}(h:v=v'):wF v k=wF v' k:=by rw [h]
@[congr] theorem acW {v v':l8}{k:List l8→Option β}(h:v=v'):Gv v k=Gv v' k:=by rw [h]
@[congr] theorem acX {v v':l8}{k:List UInt8→Option β}(h:v=v'):zh v k=zh v' k:=by rw [h]
@[congr] theorem acY {v v':l8}{k:Nat→Option β}(h:v=v'):nI v k=nI v' k:=by rw [h]
end
end Go.AM
namespace Go.AM
open Go
section
variable {α β:Type}
@[simp high] theorem RV (a:α)(k:α→Option β):ob (some a) k=k a:=id rfl
@[simp high] theorem RX (k:α→Option β):ob none k=none:=id rfl
@[simp high] theorem RY (x y:α):bi true x y=x:=id rfl
@[simp high] theorem Qw (x y:α):bi false x y=y:=id rfl
@[simp high] theorem acZ (i:Nat):(T.e:T α).get i=none:=id rfl
@[simp high] theorem Qx (l:T α)(x:α)(r:T α):(T.nd l x r).get 0=some x:=id rfl
@[simp high] theorem ad1 (i:Nat)(x:α):(T.e:T α).put i x=.nd .e x .e:=id rfl
@[simp high] theorem Qy (l:T α)(y:α)(r:T α)(x:α):(T.nd l y r).put 0 x=.nd l x r:=id rfl
@[simp high] theorem Qz (x:α)(n:Nat)(t:T α)(i:Nat):T.rep x (n + 1) t i=T.rep x n (t.put i x) (i + 1):=id rfl
@[simp high] theorem EH (m:Mem):reserve 0 m=m:=id rfl
@[simp high] theorem EI (n:Nat)(m:Mem):reserve (n + 1) m=reserve n (m.new .void):=id rfl
@[simp high] theorem QA (m:Mem)(b:Blk):(m.new b).next=m.next + 1:=id rfl
@[simp high] theorem RZ (m:Mem)(b:Blk):(m.new b).lim=m.lim:=id rfl
@[simp high] theorem QB (m:Mem)(i:Nat)(b:Blk):(m.set i b).next=m.next:=id rfl
@[simp high] theorem Sb (m:Mem)(i:Nat)(b:Blk):(m.set i b).lim=m.lim:=id rfl
end
end Go.AM
namespace Go.AM
open Go
@[simp] theorem Ku:dz 100 .undef .undef=true:=id rfl
end Go.AM
namespace Go.AM
open Go
theorem zO (k:IntKind)(a b:Nat)(h:b≠0):wG k (a:Int) (b:Int)=some (.int k ((a % b:Nat):Int)):=by
 cases b with
 | zero=>exact absurd rfl h
 | succ b=>rfl
end Go.AM
namespace Go.AM
open Go
theorem xR {β:Type}{es:Nat}{cells:List l8}(h:cells.length=es)(k:Blk→Option β):gu es 1 cells k=k (C9 cells):=by
 show ob (ob (takeN es cells) fun r=>ob (rowsOf es 0 (iB es cells)) fun rest=>some (r :: rest)) (fun rows=>k (.cells es 1 (T.ofList rows)))=_
 rw [fM _ _ (by omega),Q7,eG,List.drop_of_length_le (by omega),List.take_of_length_le (by omega)]
 show k (.cells es 1 (.nd .e cells .e))=k (.cells (len' cells) 1 (.nd .e cells .e))
 rw [O4,h]
theorem aB (es:Nat)(zero:List l8)(ps:List (Nat×Nat×OF))(ls:List l8)(env:T l8)(nid:Nat)(hz:zero.length=es):H9 es 1 zero ps ls env nid=ob (lay ps ls env zero) fun cells=>if cells.length=es then some (.slice nid 0 1 1,some (C9 cells)) else none:=by
 show ob (lay ps ls env (gq zero [])) (fun cells=>gu es 1 cells fun b=>some (l8.slice nid 0 1 1,some b))=_
 rw [U9,List.append_nil]
 congr 1
 funext cells
 split
 ·rename_i h;rw [xR h]
 ·rename_i h
  show ob (ob (takeN es cells) fun r=>ob (rowsOf es 0 (iB es cells)) fun rest=>some (r :: rest)) _=none
  cases ht:takeN es cells with
  | none=>rfl
  | some r=>
   obtain⟨h1,h2⟩:=dF _ _ _ ht
   rw [Q7,eG]
   cases hd:cells.drop es with
   | nil=>
    have:=List.drop_eq_nil_iff.1 hd
    omega
   | cons x xs=>rfl
@[simp] theorem abN {β:Type}(len:Nat)(k:Nat→Option β):idx len (.int .i64 0) k=if 0 < len then k 0 else none:=by
 show bi (Nat.blt 0 len) (k 0) none=_
 rw [CQ]
noncomputable def msB (b:Option Blk)(f:EqF)(n:Nat)(k x:l8):Option Blk:=
 vEs b fun es=>ob (P5 f n k es) fun r=>Option.rec (some (.map (es ++ [(k,x)]))) (fun p=>ob es[p.1]? fun e=>bi (Nat.beq e.1.cells.length n) (some (.map (cu es k x p.1))) none) r
theorem jG (f:EqF)(n:Nat)(mp k x:OF)(cf:K7)(ls:List l8)(env:T l8)(m:Mem):ak f n mp k x cf ls env m=uo (mp ls env) none fun id=>bi (Nat.blt id m.lim) none (ob (msB (m.get id) f n (k ls env) (x ls env)) fun b=>some [⟨.undef,m.set id b⟩]):=by
 show uo (mp ls env) none (fun id=>bi (Nat.blt id m.lim) none _)=_
 congr 1
 funext id
 congr 1
 unfold msB
 match m.get id with
 | some (.map es)=>
  show ob (P5 f n (k ls env) es) _=ob (ob (P5 f n (k ls env) es) _) _
  cases P5 f n (k ls env) es with
  | none=>rfl
  | some r=>
   cases r with
   | none=>simp [U9];rfl
   | some p=>
    simp only [Q7]
    show ob (uj p.1 es) _=ob (ob es[p.1]? _) _
    rw [fA]
    cases es[p.1]? with
    | none=>rfl
    | some e=>
     simp only [Q7,O4]
     cases Nat.beq e.1.cells.length n <;> rfl
 | some .void | some .dead | some (.cells ..) | some (.iter ..) | some (.tail _) | some (.loop ..) | some .deferred | none=>rfl
@[congr] theorem ad2 {β:Type}{v v':l8}{z:Option β}{k:Nat→Option β}(h:v=v'):uo v z k=uo v' z k:=by rw [h]
theorem CR {m:Mem}(hl:m.lim≤m.next)(l:List Blk)(c:Nat):Nat.blt (m.next + c) (ext m l).lim=false:=by
 rw [dY]
 cases h:Nat.blt (m.next + c) m.lim with
 | false=>rfl
 | true=>have:=Nat.blt_eq.mp h;omega
theorem vX {m:Mem}(hl:m.lim≤m.next)(l:List Blk):Nat.blt m.next (ext m l).lim=false:=CR hl l 0
theorem tO (es:List (l8×l8))(f:EqF)(n:Nat)(k x:l8):msB (some (.map es)) f n k x=ob (P5 f n k es) fun r=>Option.rec (some (.map (es ++ [(k,x)]))) (fun p=>ob es[p.1]? fun e=>bi (Nat.beq e.1.cells.length n) (some (.map (cu es k x p.1))) none) r:=rfl
theorem nE (f:EqF)(n:Nat)(k:l8):P5 f n k []=bi (Nat.beq (len' k.cells) n) (ob (f k k) fun _=>some none) none:=rfl
theorem R3 (f:EqF)(n:Nat)(k:l8)(e:l8×l8)(es:List (l8×l8)):P5 f n k (e :: es)=bi (Nat.beq (len' k.cells) n) (findKey f k (e :: es) 0) none:=rfl
@[simp] theorem QC (f:OF)(params:List (Option Nat))(assign body:Z4)(cf:K7)(fu:Nat)(env:T l8)(m:Mem)(k:List Mk):iF f params assign body cf fu none env m k=Jr cf (f [] env) params assign body env (m.new .deferred) (.c m.next :: k):=id rfl
@[simp] theorem Sc (cf:K7)(f:FuncId)(a b:List l8)(params:List (Option Nat))(assign body:Z4)(env:T l8)(m:Mem)(k:List Mk):Jr cf (.func (.func f) a b) params assign body env m k =
  bnd (cf (.func f) (a ++ (.func (.yield m.next) [] [] :: b)) (m.new (.loop .ready none env params assign body))) fun r=>fZ r.v (fun _=>none) <|
   kH (r.m.get m.next) fun st pend _ _ _ _=>match st with
    | .busy=>none
    | _=>match pend with
     | none=>qc .normal env (r.m.set m.next .dead) k
     | some x=>qc x env (r.m.set m.next .dead) k:=by
 show bnd (cf (.func f) (gq a (gq [.func (.yield m.next) [] []] b)) _) _=_
 rw [U9,U9];rfl
@[simp] theorem abO {β:Type}(st:LoopState)(pend:Option R7)(env:T l8)(ps:List (Option Nat))(as bd:Z4)(f:LoopState→Option R7→T l8→List (Option Nat)→Z4→Z4→Option β):kH (some (.loop st pend env ps as bd)) f=f st pend env ps as bd:=id rfl
theorem Kv (dcf:gZ)(rs:List rV)(env:T l8)(m:Mem)(id:Nat)(h:m.get id=some .deferred):leave dcf rs ⟨.ret,env,m,[.c id],none⟩=ob (results rs env (m.set id .dead)) fun l=>some [⟨result l,m.set id .dead⟩]:=by
 show QM (m.get id) _=_
 rw [h];rfl
end Go.AM
namespace Go.AM
open Go
theorem rG {β:Type}{m:Mem}{id:Nat}(hl:m.lim≤id)(off:Nat)(vs:List l8)(k:Mem→Option β):storeAt m id off vs k=bi (ah vs) (ob (stB (m.get id) off vs) fun b=>k (m.set id b)) none:=by
 cases h1:ah vs with
 | true=>rw [Z9 hl h1];rfl
 | false=>
  unfold storeAt
  rw [h1]
  cases Nat.blt id m.lim <;> rfl
end Go.AM
namespace Go.AM
open Go
def zP (P:Program):List Field→Nat→Nat→Bool
 | [],o,n=>Nat.beq o n
 | f :: fs,o,n=>Nat.beq f.offset o && zP P fs (o + P.cellsOf f.type) n
def rH (P:Program):Nat→TypeId→Bool
 | 0,_=>false
 | n + 1,t=>match P.underlying t with
  | some .bool=>true
  | some (.int _)=>true
  | some .string=>true
  | some (.slice e)=>rH P n e && Nat.blt 0 (P.cellsOf e)
  | some (.struct fs)=>fs.toList.all (fun f=>rH P n f.type) && zP P fs.toList 0 (P.cellsOf t)
  | _=>false
def AP (S:TypeId→List l8→Prop):List Field→List l8→Prop
 | [],vs=>vs=[]
 | f :: fs,vs=>∃a b,vs=a ++ b∧S f.type a∧AP S fs b
def shp (P:Program)(m:Mem):Nat→TypeId→List l8→Prop
 | 0,_,_=>False
 | n + 1,t,vs=>match P.underlying t with
  | some .bool=>∃b,vs=[.bool b]
  | some (.int k)=>∃i,vs=[.int k i]∧(Lit.int k i).wf=true
  | some .string=>∃s:List UInt8,vs=[.str s]∧s.length≤maxLen
  | some (.slice e)=>vs=[.nilSlice]∨∃id len cap,vs=[.slice id 0 len cap]∧len≤cap∧cap≤maxLen∧
    ((cap=0∧m.get id=some .dead)∨∃rows,0 < cap∧m.get id=some (.cells (P.cellsOf e) cap rows)∧∀i,i < cap→∃row,rows.get i=some row∧row.length=P.cellsOf e∧shp P m n e row)
  | some (.struct fs)=>AP (shp P m n) fs.toList vs
  | _=>False
theorem rJ {S S':TypeId→List l8→Prop}(h:∀t vs,S t vs→S' t vs):∀fs vs,AP S fs vs→AP S' fs vs
 | [],_,hv=>hv
 | _ :: fs,_,⟨a,b,e,h1,h2⟩=>⟨a,b,e,h _ _ h1,rJ h fs b h2⟩
theorem lH {P:Program}{m m':Mem}(h:∀i b,m.get i=some b→m'.get i=some b):∀n t vs,shp P m n t vs→shp P m' n t vs:=by
 intro n
 induction n with
 | zero=>intro t vs hv;exact hv
 | succ n ih=>
  intro t vs hv
  unfold shp at hv ⊢
  split at hv
  ·exact hv
  ·exact hv
  ·exact hv
  ·rcases hv with hv | ⟨id,len,cap,h1,h2,h3,h4⟩
   ·exact .inl hv
   ·refine .inr ⟨id,len,cap,h1,h2,h3,?_⟩
    rcases h4 with⟨h4,h5⟩ | ⟨rows,h4,h5,h6⟩
    ·exact .inl ⟨h4,h _ _ h5⟩
    ·exact .inr ⟨rows,h4,h _ _ h5,fun i hi=>by
      obtain⟨row,g1,g2,g3⟩:=h6 i hi
      exact⟨row,g1,g2,ih _ _ g3⟩⟩
  ·exact rJ (fun t vs=>ih t vs) _ _ hv
  ·exact hv
section
variable {P:Program}{G:Mem}{hp:Array Obj}
theorem Mem.lI (m:Mem)(i:Nat):m.shut.get i=m.get i:=rfl
theorem RM.push {ι:Inj}{m:Mem}(h:RM P G ι m hp)(hl:m.lim=m.next){b:Blk}{l:Loc}(hv:eD b=false)(hs:U3 b=true→l.spot=none)
  (hb:bO P (ι.upd m.next l) ((m.new b).nm (ι.upd m.next l)) hp l b):RM P G (ι.upd m.next l) (m.new b).shut hp:=by
 have hget:∀i,(m.new b).shut.get i=if i=m.next then some b else m.get i:=fun i=>Mem.aI h.ok b i
 have hne:∀i x,m.get i=some x→i≠m.next:=fun i x hx e=>by have:=Mem.K6 h.ok hx;omega
 have hext:∀j,m.has j→ι.upd m.next l j=ι j:=fun j ⟨x,hx,_⟩=>ι.upd_ne l (hne j x hx)
 have hhas:∀i,m.has i→(m.new b).shut.has i:=fun i ⟨x,hx,hv⟩=>⟨x,by rw [hget,if_neg (hne i x hx)];exact hx,hv⟩
 have hG:G.next≤m.next:=Nat.le_trans h.glim h.limn
 refine⟨h.ok.push b,fun i x hx=>?_,fun i x hi hx _=>?_,?_,Nat.le_refl _,h.gle,fun i hi=>?_,fun i hi=>hhas i (h.ghas i hi),fun i hi=>?_,fun i x hx hlx=>?_⟩
 ·rw [hget] at hx
  split at hx
  ·rename_i e;subst e;cases hx;rw [ι.P7];exact hb
  ·rename_i e
   rw [ι.upd_ne l e]
   exact (h.blk i x hx).mono (n:=m.nm ι) hext (Mem.W9 hhas hext) fun _=>rfl
 ·have h1:=Mem.K6 (m:=(m.new b).shut) (h.ok.push b) hx
  have hi:(m.new b).shut.next≤i:=hi
  omega
 ·show G.next≤m.next + 1;omega
 ·rw [hget,if_neg (by omega)];exact h.base i hi
 ·rw [hext i (h.ghas i hi)];exact h.glob i hi
 ·rw [hget] at hx
  split at hx
  ·rename_i e;subst e;cases hx;rw [ι.P7];exact hs hlx
  ·rename_i e;rw [ι.upd_ne l e];exact h.spot i x hx hlx
structure Lifts (P:Program)(G:Mem)(hp:Array Obj)(ι:Inj)(m:Mem)(ι':Inj)(m':Mem):Prop where
 rm:RM P G ι' m' hp
 lim:m'.lim=m'.next
 get:∀i b,m.get i=some b→m'.get i=some b
 ext:∀i,m.has i→ι' i=ι i
theorem Lifts.refl {ι:Inj}{m:Mem}(h:RM P G ι m hp)(hl:m.lim=m.next):Lifts P G hp ι m ι m:=⟨h,hl,fun _ _ h=>h,fun _ _=>rfl⟩
theorem Lifts.has {ι ι':Inj}{m m':Mem}(h:Lifts P G hp ι m ι' m')(i:Nat)(hi:m.has i):m'.has i:=by
 obtain⟨x,h1,h2⟩:=hi
 exact⟨x,h.get i x h1,h2⟩
theorem Lifts.trans {ι1 ι2 ι3:Inj}{m1 m2 m3:Mem}(h:Lifts P G hp ι1 m1 ι2 m2)(k:Lifts P G hp ι2 m2 ι3 m3):Lifts P G hp ι1 m1 ι3 m3:=
 ⟨k.rm,k.lim,fun i b hb=>k.get i b (h.get i b hb),fun i hi=>(k.ext i (h.has i hi)).trans (h.ext i hi)⟩
theorem Lifts.G5 {ι ι':Inj}{m m':Mem}(h:Lifts P G hp ι m ι' m'){vs:List l8}(hv:ltL (m.nm ι) vs):G8 ι' vs=G8 ι vs:=Y7 (n:=m.nm ι) h.ext vs hv
theorem Lifts.lt {ι ι':Inj}{m m':Mem}(h:Lifts P G hp ι m ι' m'){vs:List l8}(hv:ltL (m.nm ι) vs):ltL (m'.nm ι') vs:=Z5 (Mem.W9 h.has h.ext) vs hv
theorem Lifts.push {ι:Inj}{m:Mem}(h:RM P G ι m hp)(hl:m.lim=m.next){b:Blk}{l:Loc}(hv:eD b=false)(hs:U3 b=true→l.spot=none)
  (hb:bO P (ι.upd m.next l) ((m.new b).nm (ι.upd m.next l)) hp l b):Lifts P G hp ι m (ι.upd m.next l) (m.new b).shut:=by
 have hne:∀i x,m.get i=some x→i≠m.next:=fun i x hx e=>by have:=Mem.K6 h.ok hx;omega
 exact⟨h.push hl hv hs hb,rfl,fun i x hx=>by rw [Mem.lI,Mem.aI h.ok,if_neg (hne i x hx)];exact hx,fun j ⟨x,hx,_⟩=>ι.upd_ne l (hne j x hx)⟩
def Gets (P:Program)(G:Mem)(hp:Array Obj)(ι:Inj)(m:Mem)(cs:List Value)(S:Mem→List l8→Prop):Prop:=
 ∃ι' m' vs,Lifts P G hp ι m ι' m'∧G8 ι' vs=cs∧ltL (m'.nm ι') vs∧S m' vs
variable {H:Type}{enc:TypeId×Value→H}{w:World}{held:Bool}
theorem xS {cs:List Value}{S:Mem→TypeId→List l8→Prop}(hS:∀m m' t vs,(∀i b,m.get i=some b→m'.get i=some b)→S m t vs→S m' t vs):
  ∀(fs:List Field) (o:Nat),(∀f∈fs,∀ι m,RM P G ι m hp→m.lim=m.next→Gets P G hp ι m ((cs.drop f.offset).take (P.cellsOf f.type)) (fun m' vs=>S m' f.type vs))→zP P fs o cs.length=true→
   ∀ι m,RM P G ι m hp→m.lim=m.next→Gets P G hp ι m (cs.drop o) (fun m' vs=>AP (S m') fs vs):=by
 intro fs
 induction fs with
 | nil=>
  intro o _ ho ι m hm hl
  have:o=cs.length:=Nat.eq_of_beq_eq_true ho
  exact⟨ι,m,[],Lifts.refl hm hl,by rw [this];simp [G8],trivial,rfl⟩
 | cons f fs ih=>
  intro o hf ho ι m hm hl
  simp only [zP,Bool.and_eq_true] at ho
  have h1:f.offset=o:=Nat.eq_of_beq_eq_true ho.1
  obtain⟨ι1,m1,a,g1,g2,g3,g4⟩:=hf f (by simp) ι m hm hl
  obtain⟨ι2,m2,b,k1,k2,k3,k4⟩:=ih (o + P.cellsOf f.type) (fun f' hf'=>hf f' (by simp [hf'])) ho.2 ι1 m1 g1.rm g1.lim
  refine⟨ι2,m2,a ++ b,g1.trans k1,?_,bS (k1.lt g3) k3,a,b,rfl,hS _ _ _ _ k1.get g4,k4⟩
  rw [cK,k1.G5 g3,g2,k2,h1,← List.drop_drop,List.take_append_drop]
theorem CS {n ce:Nat}{row:Nat→List Value}{S:Mem→List l8→Prop}(hS:∀m m' vs,(∀i b,m.get i=some b→m'.get i=some b)→S m vs→S m' vs)
  (h:∀i,i < n→∀ι m,RM P G ι m hp→m.lim=m.next→Gets P G hp ι m (row i) S):∀c,c≤n→∀ι m,RM P G ι m hp→m.lim=m.next→
   ∃(ι':Inj) (m':Mem) (rl:List (List l8)),Lifts P G hp ι m ι' m'∧rl.length=c∧∀i r,rl[i]?=some r→G8 ι' r=row i∧ltL (m'.nm ι') r∧S m' r:=by
 intro c
 induction c with
 | zero=>intro _ ι m hm hl;exact⟨ι,m,[],Lifts.refl hm hl,rfl,fun i r hr=>by simp at hr⟩
 | succ c ih=>
  intro hc ι m hm hl
  obtain⟨ι1,m1,rl,g1,g2,g3⟩:=ih (by omega) ι m hm hl
  obtain⟨ι2,m2,r,k1,k2,k3,k4⟩:=h c (by omega) ι1 m1 g1.rm g1.lim
  refine⟨ι2,m2,rl ++ [r],g1.trans k1,by simp [g2],fun i r' hr=>?_⟩
  by_cases hi:i < rl.length
  ·rw [List.getElem?_append_left hi] at hr
   obtain⟨q1,q2,q3⟩:=g3 i r' hr
   exact⟨by rw [k1.G5 q2,q1],k1.lt q2,hS _ _ _ k1.get q3⟩
  ·rw [List.getElem?_append_right (by omega)] at hr
   have:i - rl.length=0:=by
    have:=(List.getElem?_eq_some_iff.1 hr).1
    simp at this;omega
   rw [this] at hr
   simp at hr
   subst hr
   rw [show i=c from by omega]
   exact⟨k2,k3,k4⟩
theorem lift (k:Nat):∀(n:Nat) (t:TypeId) (cs:List Value) (x:DataW H×List MemPlace),DataW.trod enc P w 0 (fun _=>true) held n t cs=some x→rH P k t=true→
  ∀ι m,RM P G ι m w.heap→m.lim=m.next→Gets P G w.heap ι m cs (fun m' vs=>shp P m' k t vs):=by
 induction k with
 | zero=>intro n t cs x _ h;cases h
 | succ k ih=>
  intro n t cs x hx hp ι m hm hl
  unfold rH at hp
  have self:∀vs:List l8,G8 ι vs=cs→ltL (m.nm ι) vs→shp P m (k + 1) t vs→Gets P G w.heap ι m cs (fun m' vs=>shp P m' (k + 1) t vs):=fun vs h1 h2 h3=>⟨ι,m,vs,Lifts.refl hm hl,h1,h2,h3⟩
  split at hp
  ·rename_i ht
   obtain⟨b,rfl,_⟩:=DataW.trod_bool ht hx
   exact self [.bool b] rfl ⟨trivial,trivial⟩ (by unfold shp;rw [ht];exact⟨b,rfl⟩)
  ·rename_i ik ht
   obtain⟨i,rfl,_,hw⟩:=DataW.trod_int ht hx
   exact self [.int ik i] rfl ⟨trivial,trivial⟩ (by unfold shp;rw [ht];exact⟨i,rfl,hw⟩)
  ·rename_i ht
   obtain⟨s,rfl,_,hw⟩:=DataW.trod_string ht hx
   have hw':s.data.toList.length≤maxLen:=by simpa using hw
   exact self [.str s.data.toList] (by simp [G8,G5]) ⟨trivial,trivial⟩ (by unfold shp;rw [ht];exact⟨s.data.toList,rfl,hw'⟩)
  ·rename_i e ht
   simp only [Bool.and_eq_true] at hp
   have hce:0 < P.cellsOf e:=Nat.blt_eq.mp hp.2
   rcases Deep.open_slice ht hx with⟨rfl,_⟩ | ⟨a,len,cap,mm,n',D,Pl,rfl,_,hlen,hcap,hmm,_,hel⟩
   ·exact self [.nilSlice] rfl ⟨trivial,trivial⟩ (by unfold shp;rw [ht];exact .inl rfl)
   ·have hmm:mm=cap:=by simpa using hmm
    subst hmm
    by_cases h0:mm=0
    ·subst h0
     have hlen:len=0:=by omega
     subst hlen
     have L:=Lifts.push (b:=.dead) (l:=⟨a.block,a.off,0,a.spot⟩) hm hl rfl (by intro h;cases h) trivial
     refine⟨_,_,[.slice m.next 0 0 0],L,?_,⟨⟨.dead,by rw [Mem.lI,Mem.aI hm.ok,if_pos rfl],rfl⟩,trivial⟩,?_⟩
     ·simp [G8,G5,Inj.at]
     ·unfold shp
      rw [ht]
      exact .inr ⟨m.next,0,0,rfl,Nat.le_refl _,hcap,.inl ⟨rfl,by rw [Mem.lI,Mem.aI hm.ok,if_pos rfl]⟩⟩
    ·obtain⟨row,hrow⟩:=Deep.choose_lt hel
     obtain⟨ι1,m1,rl,g1,g2,g3⟩:=CS (n:=mm) (ce:=P.cellsOf e) (row:=row) (S:=fun m' vs=>shp P m' k e vs) (fun m m' vs h hs=>lH h k e vs hs)
      (fun i hi ι m hm hl=>ih n' e (row i) _ (hrow i hi).2 hp.1 ι m hm hl) mm (Nat.le_refl _) ι m hm hl
     have cell:∀i j,i < mm→j < P.cellsOf e→w.cell? ((a.add (i * P.cellsOf e)).add j)=(row i)[j]?∧(row i).length=P.cellsOf e:=fun i j hi hj=>by
      obtain⟨_,q2,q3⟩:=World.cells?_some (hrow i hi).1
      exact⟨q3 j hj,q2⟩
     have hsome:∀i j,i < mm→j < P.cellsOf e→∃v,(row i)[j]?=some v:=fun i j hi hj=>⟨_,List.getElem?_eq_getElem (by rw [(cell i j hi hj).2];exact hj)⟩
     have hspot:a.spot=none:=by
      obtain⟨v,hv⟩:=hsome 0 0 (by omega) hce
      have:=(cell 0 0 (by omega) hce).1
      rw [hv] at this
      unfold World.cell? at this
      split at this
      ·split at this
       ·cases this
       ·rename_i hn
        simp only [Nat.zero_mul,Addr.add,if_true] at hn
        cases hs:a.spot with
        | none=>rfl
        | some s=>rw [hs] at hn;simp at hn
      ·cases this
     obtain⟨c,et,fz,hc⟩:∃c et fz,w.heap[a.block]?=some (.cells c et fz):=by
      obtain⟨v,hv⟩:=hsome 0 0 (by omega) hce
      have:=(cell 0 0 (by omega) hce).1
      rw [hv] at this
      unfold World.cell? at this
      split at this
      ·rename_i c et fz hh
       simp only [Nat.zero_mul,Addr.add,if_true] at hh
       exact⟨c,et,fz,hh⟩
      ·cases this
     have hadd:∀i j,(a.add (i * P.cellsOf e)).add j=⟨a.block,a.off + (i * P.cellsOf e + j),none⟩:=fun i j=>by
      rw [Deep.add_add]
      unfold Addr.add
      split
      ·rename_i h;rw [h,Nat.add_zero,← hspot]
      ·rfl
     have hcc:∀i j,i < mm→j < P.cellsOf e→c[a.off + (i * P.cellsOf e + j)]?=(row i)[j]?:=fun i j hi hj=>by
      have:=(cell i j hi hj).1
      rw [hadd] at this
      simpa [World.cell?,hc] using this
     have hbound:a.off + mm * P.cellsOf e≤c.size:=by
      obtain⟨v,hv⟩:=hsome (mm - 1) (P.cellsOf e - 1) (by omega) (by omega)
      have:=hcc (mm - 1) (P.cellsOf e - 1) (by omega) (by omega)
      rw [hv] at this
      have h1:=(Array.getElem?_eq_some_iff.1 this).1
      have h2:(mm - 1) * P.cellsOf e + P.cellsOf e=mm * P.cellsOf e:=by
       rw [← Nat.succ_mul];congr 1;omega
      omega
     have hrl:∀i,i < mm→∃r,rl[i]?=some r∧G8 ι1 r=row i∧ltL (m1.nm ι1) r∧shp P m1 k e r∧r.length=P.cellsOf e:=fun i hi=>by
      have hh:rl[i]?=some rl[i]:=List.getElem?_eq_getElem (by omega)
      obtain⟨q1,q2,q3⟩:=g3 i _ hh
      refine⟨_,hh,q1,q2,q3,?_⟩
      have:=congrArg List.length q1
      rw [P8] at this
      rw [this,(cell i 0 hi hce).2]
     have hne:∀i x,m1.get i=some x→i≠m1.next:=fun i x hx e=>by have:=Mem.K6 g1.rm.ok hx;omega
     have hext:∀j,m1.has j→(ι1.upd m1.next ⟨a.block,a.off,mm * P.cellsOf e,none⟩) j=ι1 j:=fun j ⟨x,hx,_⟩=>ι1.upd_ne _ (hne j x hx)
     have hhas:∀i,m1.has i→(m1.new (.cells (P.cellsOf e) mm (T.ofList rl))).has i:=fun i ⟨x,hx,hv⟩=>⟨x,by rw [Mem.aI g1.rm.ok,if_neg (hne i x hx)];exact hx,hv⟩
     have L:=Lifts.push (b:=.cells (P.cellsOf e) mm (T.ofList rl)) (l:=⟨a.block,a.off,mm * P.cellsOf e,none⟩) g1.rm g1.lim rfl (fun _=>rfl)
      ⟨c,et,fz,hc,hbound,⟨Nat.le_refl _,rl.length,by omega,T.fK rl⟩,fun i hi=>by
       obtain⟨r,q1,q2,q3,q4,q5⟩:=hrl i hi
       refine⟨r,by rw [T.bN];exact q1,q5,Z5 (Mem.W9 hhas hext) r q3,fun j hj=>?_⟩
       show c[a.off + (i * P.cellsOf e + j)]?=_
       rw [hcc i j hi hj,← q2,U0]
       cases hr:r[j]? with
       | none=>rfl
       | some v=>simp [N9 (n:=m1.nm ι1) hext v (X9.1 q3 v (List.mem_of_getElem? hr))]⟩
     refine⟨_,_,[.slice m1.next 0 len mm],g1.trans L,?_,⟨⟨_,by rw [Mem.lI,Mem.aI g1.rm.ok,if_pos rfl],rfl⟩,trivial⟩,?_⟩
     ·simp only [G8,G5]
      rw [Inj.wI (by rw [Inj.P7]),Inj.P7]
      simp only [Nat.add_zero]
      rw [← hspot]
     ·unfold shp
      rw [ht]
      refine .inr ⟨m1.next,len,mm,rfl,hlen,hcap,.inr ⟨T.ofList rl,by omega,by rw [Mem.lI,Mem.aI g1.rm.ok,if_pos rfl],fun i hi=>?_⟩⟩
      obtain⟨r,q1,q2,q3,q4,q5⟩:=hrl i hi
      exact⟨r,by rw [T.bN];exact q1,q5,lH L.get k e r q4⟩
  ·rename_i fs ht
   simp only [Bool.and_eq_true,List.all_eq_true] at hp
   obtain⟨xs,n',rfl,_,hcl,hxl,hf⟩:=DataW.trod_struct ht hx
   have:=xS (P:=P) (G:=G) (hp:=w.heap) (cs:=cs) (S:=fun m' t vs=>shp P m' k t vs) (fun m m' t vs h hs=>lH h k t vs hs) fs.toList 0
    (fun f hfm ι m hm hl=>by
     obtain⟨i,hi⟩:=List.getElem?_of_mem hfm
     have hi':fs[i]?=some f:=by simpa using hi
     have h1:=hf i f hi'
     have hlt:i < xs.length:=by rw [hxl];exact (Array.getElem?_eq_some_iff.1 hi').1
     rw [List.getElem?_eq_getElem hlt] at h1
     exact ih n' f.type _ _ h1 (hp.1 f hfm) ι m hm hl) (by rw [hcl];exact hp.2) ι m hm hl
   obtain⟨ι',m',vs,q1,q2,q3,q4⟩:=this
   refine⟨ι',m',vs,q1,by simpa using q2,q3,?_⟩
   unfold shp
   rw [ht]
   exact q4
  ·cases hp
end
end Go.AM
