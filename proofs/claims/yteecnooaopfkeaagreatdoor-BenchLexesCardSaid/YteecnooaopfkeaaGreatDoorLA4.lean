/- A part of an evaluator for the model, proved sound: what it answers holds of the model; it speaks of every program, no condition. -/
import Derived.Test.YteecnooaopfkeaaGreatDoorLA3
import Derived.RecoverIn
set_option linter.unusedSimpArgs false
set_option linter.unusedVariables false
namespace Go.AM
open Go
section
variable {P:Program}{G:Mem}{slots:List Nat}{nt:Nat}{cf:y8}{b:Nat}{ops:Array Oper}{ord:List Nat}{X:Nat→Nat×Inst}{S:Nat→DS}
variable {ι0 ι:Inj}{m0:Mem}{w0 w:World}{a0 a:Act}{listed:Array Bool}{q:Nat}
theorem qb {A B:Array Value}(hs:A.size=B.size){t:Nat}(h:A.getD t undef=B.getD t undef):A[t]?=B[t]?:=by
 by_cases ht:t<A.size
 ·have ht':t<B.size:=by omega
  rw [Array.getElem?_eq_getElem ht,Array.getElem?_eq_getElem ht']
  simp only [Array.getD,ht,ht',dif_pos] at h
  rw [show A.getInternal t ht=A[t] from rfl,show B.getInternal t ht'=B[t] from rfl] at h
  rw [h]
 ·rw [Array.getElem?_eq_none (Nat.le_of_not_lt ht),Array.getElem?_eq_none (by omega)]
theorem yL {a a':Act}{o:Oper}(h:∀t∈qG ops o,a.tmps.getD t undef=a'.tmps.getD t undef):∀x∈o.op.operands,a.eval x=a'.eval x:=by
 intro x hx
 cases x with
 | tmp t=>exact h t (List.mem_append_left _ (List.mem_filterMap.2 ⟨.tmp t,by simpa using hx,rfl⟩))
 | _=>rfl
theorem rO {A B:Array Value}(hs:A.size=B.size){o:Oper}(h:∀t∈qG ops o,A.getD t undef=B.getD t undef):Region.wanted o (yielded ops A)=Region.wanted o (yielded ops B):=by
 unfold Region.wanted
 cases hg:o.guard with
 | none=>rfl
 | some p=>
  obtain⟨g,want⟩:=p
  have:yielded ops A g=yielded ops B g:=by
   unfold yielded
   cases ht:(ops[g]?).bind (·.dst) with
   | none=>rfl
   | some t=>
    have:=qb hs (h t (List.mem_append_right _ (by simp [hg,ht])))
    simp [this]
  simp only [this]
theorem Lm (o:POp):mZ id o=o:=by cases o<;>simp [mZ]
theorem Lr (o:ROp):CU id o=o:=by cases o<;>simp [CU]
theorem Ls (o:LOp):Iu id o=o:=by cases o<;>simp [Iu]
theorem Lu (o:EOp):wW id o=o:=by cases o<;>simp [wW]
theorem bD {op:Op}{done:List (Option Nat)}{ao:AOp}(h:cOp P slots done op=some ao):∀cs bl,op≠.select cs bl:=by
 rintro cs bl rfl;cases h
theorem ae2 {ls ls':List j3}{env env':T j3}{o:POp}(h:∀x∈iL o,Sm id ls env ls' env' x):trP o ls' env'=trP o ls env:=by
 have:=yx h;rwa [Lm] at this
theorem ae3 {ls ls':List j3}{env env':T j3}{o:ROp}(h:∀x∈Bn o,Sm id ls env ls' env' x)(m:Mem):trR o ls' env' m=trR o ls env m:=by
 have:=yA h m;rwa [Lr] at this
theorem ae4 {ls ls':List j3}{env env':T j3}{o:LOp}(h:∀x∈opsL o,Sm id ls env ls' env' x)(i:Nat):trL o ls' env' i=trL o ls env i:=by
 have:=yB h i;rwa [Ls] at this
theorem acZ {ls ls':List j3}{env env':T j3}{o:EOp}(h:∀x∈opsE o,Sm id ls env ls' env' x)(cf:y8)(m:Mem):trE o cf ls' env' m=trE o cf ls env m:=by
 have:=yC h cf m;rwa [Lu] at this
theorem rP {a a':Act}{o:Oper}(h:execOp a.eval o=execOp a'.eval o){w:World}{R:Ending→World→Prop}(hd:iK P a'.eval o w R):iK P a.eval o w R:=by
 unfold iK at *;rw [h];exact hd
theorem Gd {M:Nat}(F:Fixed P slots nt cf b ops ord X S)(hM:M≤ord.length)(hall:∀p,p<M→Lp ord listed p=true):∀p,p≤M→BX ord X S listed p=(S p).env:=by
 intro p
 induction p with
 | zero=>intro _;rfl
 | succ p ih=>
  intro hp
  obtain⟨_,h2⟩:=F.ls (p:=p) (by omega)
  rw [h2,← ih (by omega)]
  show trD (X p).2.dst (vm ord S listed p) _=_
  simp [vm,hall p (by omega)]
theorem ni.pan {r:Option Nat}(hcf:qj P G cf)(F:Fixed P slots nt cf b ops ord X S)(hb:m0.lim≤b)(hen:M8 ι0 (m0.nm ι0) slots (S 0).env a0.tmps)(hnt:nt≤a0.tmps.size)(D:ni P G b ops ord X S ι0 m0 w0 a0 listed a w ι q)
  {N i:Nat} {o:Oper} {eo:EOp} {y:j3} {m':Mem} (hp:ord[N]?=some i) (ho:ops[i]?=some o) (hun:listed.getD i false=false) (hr:∀e∈o.after,Region.binds .any e=true→listed.getD e.on false=true)
  (hx:(X N).2.op=.e eo) (h1:Ir (X N).2.guard (trE eo) cf (S N).ls (S N).env (S N).m=some [⟨.pan y,m'⟩]) (hdn:∀p,N<p→p<ord.length→(X p).2.dst=none) {K:Act→World→Prop} {Q:Exit→Act→World→Prop}
  (hQ:∀ι' w',Step P G ι0 m0 w0 ι' m' w'→y.lt (m'.nm ι')→M8 ι' (m'.nm ι') slots (S N).env a.tmps→Q (.panic [{v:=l6 ι' y,recovered:=false}]) a w'):wpOpIn (FR r) 0 P ops Q i K a w:=by
 have hi:i<listed.size:=by rw [D.len];exact (Array.getElem?_eq_some_iff.1 ho).1
 have hpl:N<ord.length:=(List.getElem?_eq_some_iff.1 hp).1
 have hqp:q≤N:=by
  rcases Nat.lt_or_ge N q with h | h
  ·have:=D.low N h;rw [jl hp,hun] at this;cases this
  ·exact h
 obtain⟨d,rfl⟩:∃d,N=q+d:=⟨N-q,by omega⟩
 have hdep:∀j,Dep ops i j→listed.getD j false=true:=fun j hj=>hj.listed D.closed fun o' ho' e he hbnd=>by rw [ho] at ho';cases ho';exact hr e he hbnd
 obtain⟨o',ho',hop,hdst,hg⟩:=F.inst (q+d) i hp
 rw [ho] at ho';cases ho'
 have s:=D.st F hb hen hnt d (by omega) (q+d) (Nat.le_refl _)
 let af:Act:={tmps:=tmM ops ord S listed ι a0 (q+d),defers:=[]}
 have hlook:∀t∈qG ops o,a.tmps.getD t undef=af.tmps.getD t undef:=fun t ht=>D.looks F hnt hp ho hun hdep ht
 have hsz:a.tmps.size=af.tmps.size:=by rw [D.sz];exact ig _ |>.symm
 have hwant:=rO hsz hlook
 have hwg:=gy (tmps:=af.tmps) s hg
 have hev:(∀cs bl,o.op≠.select cs bl)→execOp a.eval o=execOp af.eval o:=fun hs=>execOp_congr o hs (yL hlook)
 have hsm:∀y∈Et (X (q+d)).2.op,Sm id (S (q+d)).ls (S (q+d)).env (lsM ord S listed (q+d)) (BX ord X S listed (q+d)) y:=fun y hy=>D.opd F hpl hdep (F.opd _ i hp y hy)
 have hbaseLay:=D.lay F hb d (by omega)
 have hguard:∀y wt,(X (q+d)).2.guard=some (y,wt)→trO y (lsM ord S listed (q+d)) (BX ord X S listed (q+d))=trO y (S (q+d)).ls (S (q+d)).env:=fun y wt h=>D.opd F hpl hdep (F.opdg _ i y wt hp h)
 have hwanted:Region.wanted o (yielded ops a.tmps)=wZ (X (q+d)).2.guard (S (q+d)).ls (S (q+d)).env:=by
  rw [hwant,hwg]
  cases hgd:(X (q+d)).2.guard with
  | none=>rfl
  | some z=>obtain⟨y,wt⟩:=z;simp only [wZ];rw [hguard y wt hgd]
 have hcop:∀{ao},(X (q+d)).2.op=ao→ao≠.e .bad→cOp P slots (aY ops ord (q+d)) o.op=some ao:=by
  intro ao h1 h2
  rw [hop] at h1
  unfold ng at h1
  split at h1
  ·rename_i a' ha;rw [ha,h1]
  ·exact absurd h1.symm h2
 have hE:isE (X (q+d)).2=true:=by simp [isE,hx]
 have hall:∀k,k<d→Lp ord listed (q+k)=true:=fun k hk=>by
  have hkl:q+k<ord.length:=by omega
  have:=hdep _ (F.eff (q+d) i hp hE (q+k) _ (by omega) (List.getElem?_eq_getElem hkl))
  rw [jl (List.getElem?_eq_getElem hkl)];exact this
 have hnoE:∀k,k<d→isE (X (q+k)).2=false:=fun k hk=>by
  cases he:isE (X (q+k)).2 with
  | false=>rfl
  | true=>have h1:=D.high (q+k) (by omega) he;rw [hall k hk] at h1;cases h1
 have hmem:=F.lay_all (L:=Lp ord listed) d (by omega) fun k hk=>⟨hall k hk,hnoE k hk⟩
 rw [hmem] at s hbaseLay
 have hlow:∀p,p<q+d→Lp ord listed p=true:=fun p h=>by
  by_cases hpq:p<q
  ·exact D.low p hpq
  ·have:=hall (p-q) (by omega)
   rwa [show q+(p-q)=p from by omega] at this
 have henv:M8 ι ((S (q+d)).m.nm ι) slots (S (q+d)).env a.tmps:=by
  have he:=s.env
  rw [Gd F (Nat.le_of_lt hpl) hlow (q+d) (Nat.le_refl _)] at he
  refine⟨he.ok,he.small,fun t j ht=>?_⟩
  obtain⟨g1,v,g2,g3,g4⟩:=he.val t j ht
  refine⟨by rw [hsz];exact g1,v,g2,g3,?_⟩
  rw [← g4]
  by_cases hw:∃(i':Nat) (oj:Oper),ops[i']?=some oj∧oj.dst=some t
  ·obtain⟨i',oj,hj,hjt⟩:=hw
   obtain⟨p',hp'⟩:=List.getElem?_of_mem (F.all i' (Array.getElem?_eq_some_iff.1 hj).1)
   have hpl':=(List.getElem?_eq_some_iff.1 hp').1
   by_cases hlt:p'<q+d
   ·have hL:=hlow p' hlt
    rw [jl hp'] at hL
    rw [D.tw p' i' oj t hp' hL hj hjt,wH F hnt hp' hj hjt (q+d) hlt]
    have hL':=hlow p' hlt
    simp [vm,hL']
   ·by_cases heq:p'=q+d
    ·subst heq
     obtain rfl:i'=i:=Option.some.inj (hp'.symm.trans hp)
     have e1:=D.tn t fun i2 o2 (hl2:listed.getD i2 false=true) ho2 ht2=>by
      obtain rfl:=F.dsts i2 i' o2 oj t ho2 hj ht2 hjt
      rw [hun] at hl2;cases hl2
     have e2:=mE (ops:=ops) (ord:=ord) (S:=S) (listed:=listed) (ι:=ι) (a0:=a0) (t:=t) (q+d) fun r2 i2 o2 hr2 hi2 ho2 ht2=>by
      obtain rfl:=F.dsts i2 i' o2 oj t ho2 hj ht2 hjt
      have:=(List.getElem?_inj (List.getElem?_eq_some_iff.1 hi2).1 F.nodup).1 (hi2.trans hp'.symm)
      omega
     rw [e1,e2]
    ·exfalso
     have hd0:=hdn p' (by omega) hpl'
     obtain⟨o2,ho2,_,hd2,_⟩:=F.inst p' i' hp'
     rw [hj] at ho2;cases ho2
     rw [hd2,hjt] at hd0
     have hd0:idxOf t slots 0=none:=hd0
     rw [ht] at hd0;cases hd0
  ·rw [D.tn t fun i2 o2 _ ho2 ht2=>hw ⟨i2,o2,ho2,ht2⟩,mE (q+d) fun r2 i2 o2 _ _ ho2 ht2=>hw ⟨i2,o2,ho2,ht2⟩]
 show wpOpIn (FR r) 0 P ops Q i K a w
 unfold wpOpIn
 simp only [ho]
 rw [hwanted]
 have run:trE eo cf (S (q+d)).ls (S (q+d)).env (S (q+d)).m=some [⟨.pan y,m'⟩]→o.wpIn (FR r) 0 P a w K Q:=by
  intro h1
  have hnb:AOp.e eo≠.e .bad:=by
   intro h;cases h
   cases h1
  have hc:=hcop hx hnb
  rw [hx] at hsm
  rw [← acZ hsm] at h1
  have:=rF (a:=af) hcf s hbaseLay.rm hc h1 o rfl
  refine fC (wB (cf:=cf) hc h1) (rP (hev (bD hc)) this) ?_ ?_ fun _=>gY
  ·rintro u w' (⟨_,hu,x,hxm,ι',g1,g2,rfl⟩ | ⟨_,_,_,_,_,_,_,h⟩)
   ·obtain rfl:=List.mem_singleton.1 hxm
    exact g2.elim
   ·cases h
  ·rintro c w' (⟨_,hu,_⟩ | ⟨x,hxm,y',ι',hxy,g1,g2,g3⟩)
   ·cases hu
   ·obtain rfl:=List.mem_singleton.1 hxm
    cases hxy
    cases g3
    exact hQ ι' w' (hbaseLay.trans g1) g2 (g1.env henv)
 cases hgd:(X (q+d)).2.guard with
 | none=>rw [hgd] at h1;exact run h1
 | some z=>
  obtain⟨y',wt⟩:=z
  rw [hgd] at h1
  have h1:bi (isB wt (trO y' (S (q+d)).ls (S (q+d)).env)) (trE eo cf (S (q+d)).ls (S (q+d)).env (S (q+d)).m) (one .undef (S (q+d)).m)=some [⟨.pan y,m'⟩]:=h1
  rw [show wZ (some (y',wt)) (S (q+d)).ls (S (q+d)).env=isB wt (trO y' (S (q+d)).ls (S (q+d)).env) from rfl]
  cases hB:isB wt (trO y' (S (q+d)).ls (S (q+d)).env) with
  | true=>rw [hB] at h1;exact run h1
  | false=>
   rw [hB] at h1
   have h1:[(⟨.undef,(S (q+d)).m⟩:VM)]=[⟨.pan y,m'⟩]:=Option.some.inj h1
   simp at h1
theorem yM {x:OF}{ls:List j3}{env:T j3}{M M':Mem}{id off len cp:Nat}(hx:x ls env=.slice id off len cp)(hg:M.get id=M'.get id):U0 x ls env M=U0 x ls env M':=by
 have h:I7 M id off len=I7 M' id off len:=by unfold I7;rw [hg]
 unfold U0
 rw [hx]
 show ob (I7 M id off len) _=ob (I7 M' id off len) _
 rw [h]
theorem ni.op {r:Option Nat}(hcf:qj P G cf)(F:Fixed P slots nt cf b ops ord X S)(hb:m0.lim≤b)(hen:M8 ι0 (m0.nm ι0) slots (S 0).env a0.tmps)(hnt:nt≤a0.tmps.size)(D:ni P G b ops ord X S ι0 m0 w0 a0 listed a w ι q)
  {i:Nat} {o:Oper} (ho:ops[i]?=some o) (hun:listed.getD i false=false) (hr:∀e∈o.after,Region.binds .any e=true→listed.getD e.on false=true) (hD:∀p,ord[p]?=some i→DStep cf b (X p) (S p) (S (p+1))) {K:Act→World→Prop} {Q:Exit→Act→World→Prop}
  (hK:∀a' w' ι' q',ni P G b ops ord X S ι0 m0 w0 a0 (listed.setIfInBounds i true) a' w' ι' q'→K a' w'):wpOpIn (FR r) 0 P ops Q i K a w:=by
 have hi:i<listed.size:=by rw [D.len];exact (Array.getElem?_eq_some_iff.1 ho).1
 obtain⟨p,hp⟩:=List.getElem?_of_mem (F.all i (Array.getElem?_eq_some_iff.1 ho).1)
 have hpl:p<ord.length:=(List.getElem?_eq_some_iff.1 hp).1
 have hqp:q≤p:=by
  rcases Nat.lt_or_ge p q with h | h
  ·have:=D.low p h;rw [jl hp,hun] at this;cases this
  ·exact h
 obtain⟨d,rfl⟩:∃d,p=q+d:=⟨p-q,by omega⟩
 have hdep:∀j,Dep ops i j→listed.getD j false=true:=fun j hj=>hj.listed D.closed fun o' ho' e he hbnd=>by rw [ho] at ho';cases ho';exact hr e he hbnd
 obtain⟨o',ho',hop,hdst,hg⟩:=F.inst (q+d) i hp
 rw [ho] at ho';cases ho'
 have s:=D.st F hb hen hnt d (by omega) (q+d) (Nat.le_refl _)
 let af:Act:={tmps:=tmM ops ord S listed ι a0 (q+d),defers:=[]}
 have hlook:∀t∈qG ops o,a.tmps.getD t undef=af.tmps.getD t undef:=fun t ht=>D.looks F hnt hp ho hun hdep ht
 have hsz:a.tmps.size=af.tmps.size:=by rw [D.sz];exact ig _ |>.symm
 have hwant:=rO hsz hlook
 have hwg:=gy (tmps:=af.tmps) s hg
 have hev:(∀cs bl,o.op≠.select cs bl)→execOp a.eval o=execOp af.eval o:=fun hs=>execOp_congr o hs (yL hlook)
 have hLs:=Gc (listed:=listed) F.nodup hp hi
 have hLmono:∀r,Lp ord listed r=true→Lp ord (listed.setIfInBounds i true) r=true:=fun r hL=>by rw [hLs];split<;>simp [hL]
 have hsm:∀y∈Et (X (q+d)).2.op,Sm id (S (q+d)).ls (S (q+d)).env (lsM ord S listed (q+d)) (BX ord X S listed (q+d)) y:=fun y hy=>D.opd F hpl hdep (F.opd _ i hp y hy)
 have hbaseLay:=D.lay F hb d (by omega)
 have LFd:=F.lay D.head D.base.rm.ok (Lp ord listed) d (by omega)
 obtain⟨v,_,_,hs⟩:=hD (q+d) hp
 have hVof:Vof S (q+d)=v:=by simp [Vof,‹(S (q+d+1)).ls=_›]
 have hguard:∀y wt,(X (q+d)).2.guard=some (y,wt)→trO y (lsM ord S listed (q+d)) (BX ord X S listed (q+d))=trO y (S (q+d)).ls (S (q+d)).env:=fun y wt h=>D.opd F hpl hdep (F.opdg _ i y wt hp h)
 have hwanted:Region.wanted o (yielded ops a.tmps)=wZ (X (q+d)).2.guard (S (q+d)).ls (S (q+d)).env:=by
  rw [hwant,hwg]
  cases hgd:(X (q+d)).2.guard with
  | none=>rfl
  | some z=>obtain⟨y,wt⟩:=z;simp only [wZ];rw [hguard y wt hgd]
 have hle1:((aT b X S q (Lp ord listed) d).nm ι).le ((aT b X S q (Lp ord (listed.setIfInBounds i true)) (d+1)).nm ι):=
  Mem.O6 (fun j hj=>F.rM D.head D.base.rm.ok (by omega) (by omega) (fun k _ h=>hLmono _ h) hj) fun _ _=>rfl
 have still:isE (X (q+d)).2=false→fG b X S (q+d)=none→(Vof S (q+d)).lt ((aT b X S q (Lp ord listed) d).nm ι)→K (a.put o.dst (l6 ι (Vof S (q+d)))) w:=by
  intro hE hmk hlt
  exact hK _ _ ι q (D.quiet F hnt hp ho hun hr hE (ι':=ι) (w':=w) (Step.refl D.base.rm) (fun _ _=>rfl) (fun _ _=>rfl) (fun id blk h=>by rw [hmk] at h;cases h) (j3.F4 hle1 _ hlt))
 show wpOpIn (FR r) 0 P ops Q i K a w
 unfold wpOpIn
 simp only [ho]
 rw [hwanted]
 have skip:isE (X (q+d)).2=false→fG b X S (q+d)=none→Vof S (q+d)=.undef→(∀f,o.about P w a.eval=some f→(FR r).fn f)∧K (a.put o.dst undef) w:=by
  intro hE hmk hv
  refine⟨fun _ _=>trivial,?_⟩
  have:=still hE hmk (by rw [hv];trivial)
  rw [hv,dM] at this
  exact this
 have hcop:∀{ao},(X (q+d)).2.op=ao→ao≠.e .bad→cOp P slots (aY ops ord (q+d)) o.op=some ao:=by
  intro ao h1 h2
  rw [hop] at h1
  unfold ng at h1
  split at h1
  ·rename_i a' ha;rw [ha,h1]
  ·exact absurd h1.symm h2
 cases hx:(X (q+d)).2.op with
 | p po=>
  rw [hx] at hs hsm
  obtain⟨h1,_,_⟩:=hs
  have hE:isE (X (q+d)).2=false:=by simp [isE,hx]
  have hmk:fG b X S (q+d)=none:=by simp [fG,hx]
  have hc:=hcop hx (by simp)
  have run:trP po (S (q+d)).ls (S (q+d)).env=some v→o.wpIn (FR r) 0 P a w K Q:=by
   intro h1
   rw [← ae2 hsm] at h1
   obtain⟨g1,g2⟩:=jI (a:=af) s hc h1
   refine aN (ji hc (fun _ _ h=>by cases h)) (R:=fun u w'=>u=l6 ι v∧w'=w) ?_ ?_
   ·exact E5 (by rw [hev (bD hc)];exact g2 o rfl w) ⟨rfl,rfl⟩
   ·rintro u w' ⟨rfl,rfl⟩
    have:=still hE hmk (by rw [hVof];exact g1)
    rwa [hVof] at this
  cases hgd:(X (q+d)).2.guard with
  | none=>rw [hgd] at h1;exact run h1
  | some z=>
   obtain⟨y,wt⟩:=z
   rw [hgd] at h1
   have h1:bi (isB wt (trO y (S (q+d)).ls (S (q+d)).env)) (trP po (S (q+d)).ls (S (q+d)).env) (some .undef)=some v:=h1
   rw [show wZ (some (y,wt)) (S (q+d)).ls (S (q+d)).env=isB wt (trO y (S (q+d)).ls (S (q+d)).env) from rfl]
   cases hB:isB wt (trO y (S (q+d)).ls (S (q+d)).env) with
   | true=>rw [hB] at h1;exact run h1
   | false=>rw [hB] at h1;cases h1;exact skip hE hmk hVof
 | r ro=>
  rw [hx] at hs hsm
  obtain⟨h1,_,_,_⟩:=hs
  have hE:isE (X (q+d)).2=false:=by simp [isE,hx]
  have hmk:fG b X S (q+d)=none:=by simp [fG,hx]
  have hc:=hcop hx (by simp)
  have runL:trR ro (S (q+d)).ls (S (q+d)).env (aT b X S q (Lp ord listed) d)=some v→o.wpIn (FR r) 0 P a w K Q:=by
   intro h1
   rw [← ae3 hsm] at h1
   obtain⟨g1,g2⟩:=jJ (a:=af) s hbaseLay.rm (lW hc) h1
   refine aN (ji hc (fun _ _ h=>by cases h)) (R:=fun u w'=>u=l6 ι v∧w'=w) ?_ ?_
   ·exact E5 (by rw [hev (bD hc)];exact g2 o rfl) ⟨rfl,rfl⟩
   ·rintro u w' ⟨rfl,rfl⟩
    have:=still hE hmk (by rw [hVof];exact g1)
    rwa [hVof] at this
  rcases h1 with⟨h1,h2⟩ | ⟨hgn,y,id,off,len,cp,rfl,hv1,hv2,hv3,hv4⟩
  case inr=>
   obtain⟨q0,k1,k2,k3⟩:=BU X (q+d)
   have hq0:q≤q0:=by
    rcases D.head with h0 | hh
    ·omega
    ·rcases Nat.lt_or_ge q0 q with hlt | hge
     ·have:=k3 (q-1) (by omega) (by omega)
      rw [this] at hh;cases hh
     ·exact hge
   obtain⟨d0,hd0⟩:∃d0,q+d=q0+d0:=⟨q+d-q0,by omega⟩
   have hhd:hd (S (q+d)).m (S (q+d)).gs=(S q0).m:=by
    obtain⟨rr,r1,r2⟩:=F.gs k2 d0 (by omega)
    rw [← hd0] at r1 r2
    cases rr with
    | succ rr=>
     obtain⟨pos,e,g1,g2,_,g4,_⟩:=r2 0 (by omega)
     rw [k3 pos g1 g2] at g4;cases g4
    | zero=>
     cases hgs:(S (q+d)).gs with
     | nil=>rw [hgs] at r1;simp at r1
     | cons g gs=>rw [hgs] at r1;simp at r1;exact r1
   rw [hhd] at hv2
   have hv2:=kM hv2
   obtain⟨y1,hy1⟩:∃y1,(S (q+d)).m.get id=some y1:=by
    cases hgt:(S (q+d)).m.get id with
    | none=>rw [hgt] at hv3;cases hv3
    | some y1=>exact⟨y1,rfl⟩
   rw [hd0] at hy1 k3
   rcases F.since (q:=q0) d0 (by omega) k3 hy1 with h | ⟨p',p1,p2,p3⟩
   ·rw [hv2] at h
    cases h
    rw [hd0,hy1] at hv3;cases hv3
   rw [← hd0] at hy1 p2
   obtain⟨x,hxo⟩:∃x,J7 P slots (aY ops ord (q+d)) x=some y:=by
    have:=lW hc
    revert this
    generalize o.op=op'
    intro h
    cases h with
    | bytesStr _ _ _ hx=>exact⟨_,hx⟩
   have hlt:=(l9 (a:=af) s hxo).2
   have hop1:trO y (lsM ord S listed (q+d)) (BX ord X S listed (q+d))=trO y (S (q+d)).ls (S (q+d)).env:=D.opd F hpl hdep (F.opd _ i hp y (by rw [hx];simp [Et,Bn]))
   rw [hop1,hv1] at hlt
   simp only [j3.lt] at hlt
   obtain⟨y',g1,g2⟩:=hlt
   have hget:(aT b X S q (Lp ord listed) d).get id=(S (q+d)).m.get id:=by
    rcases LFd.from_ id y' g1 with h | ⟨d',e1,e2,e3⟩
    ·have:=F.wG D.head (show q≤p' by omega) (by omega) p3
     rw [this] at h
     cases h;cases g2
    ·rcases Nat.lt_trichotomy (q+d') p' with hlt | heq | hgt
     ·exact absurd (F.Dy hlt (by omega) e3 p3) (Nat.lt_irrefl _)
     ·subst heq
      rw [e3] at p3
      cases p3
      rw [g1,hy1]
     ·exact absurd (F.Dy hgt (by omega) p3 e3) (Nat.lt_irrefl _)
   rw [hgn]
   refine runL ?_
   show U0 (trO y) _ _ _=_
   rw [yM hv1 hget];exact hv4
  obtain⟨rr,hr1,hr2⟩:=F.gs D.head d (by omega)
  have hrc:rr≤(X (q+d)).1:=by
   rw [F.cnt (q+d) i ro hp hx]
   refine mD _ _ _ fun k hk=>?_
   obtain⟨pos,e,g1,g2,g3,g4,g5⟩:=hr2 k hk
   refine⟨e,g5,?_⟩
   cases hm:mOf (masks ops.toList) i e with
   | false=>rfl
   | true=>
    have h3:=hdep e (U7 ops i e hm)
    have h4:=D.high pos g1 g4
    rw [jl g3,h3] at h4;cases h4
  have hread:Bw (X (q+d)).2.guard (trR ro) (S (q+d)).ls (S (q+d)).env (S q).m=some v:=by
   cases rr with
   | zero=>
    have:hd (S (q+d)).m (S (q+d)).gs=(S q).m:=by
     cases hgs:(S (q+d)).gs with
     | nil=>rw [hgs] at hr1;simp at hr1
     | cons g gs=>rw [hgs] at hr1;simp at hr1;exact hr1
    rw [this] at h1;exact h1
   | succ rr=>
    obtain⟨g,g1,g2⟩:=rJ h2 rr (by omega)
    have:g=(S q).m:=by
     cases hgs:(S (q+d)).gs with
     | nil=>rw [hgs] at hr1;simp at hr1
     | cons g' gs=>
      rw [hgs] at hr1 g1
      have g1:gs[rr]?=some g:=g1
      simp at hr1;rw [g1] at hr1;exact Option.some.inj hr1
    rw [this] at g2;exact g2
  have run:trR ro (S (q+d)).ls (S (q+d)).env (S q).m=some v→o.wpIn (FR r) 0 P a w K Q:=fun h1=>runL (Ll LFd.sub h1)
  cases hgd:(X (q+d)).2.guard with
  | none=>rw [hgd] at hread;exact run hread
  | some z=>
   obtain⟨y,wt⟩:=z
   rw [hgd] at hread
   have hread:bi (isB wt (trO y (S (q+d)).ls (S (q+d)).env)) (trR ro (S (q+d)).ls (S (q+d)).env (S q).m) (some .undef)=some v:=hread
   rw [show wZ (some (y,wt)) (S (q+d)).ls (S (q+d)).env=isB wt (trO y (S (q+d)).ls (S (q+d)).env) from rfl]
   cases hB:isB wt (trO y (S (q+d)).ls (S (q+d)).env) with
   | true=>rw [hB] at hread;exact run hread
   | false=>rw [hB] at hread;cases hread;exact skip hE hmk hVof
 | a lo=>
  rw [hx] at hs hsm
  obtain⟨res,h1,hv,_,_,_,_⟩:=hs
  have hE:isE (X (q+d)).2=false:=by simp [isE,hx]
  have hc:=hcop hx (by simp)
  have hmk0:res.2=none→fG b X S (q+d)=none:=fun h=>by
   obtain⟨u,bl⟩:=res
   obtain rfl:bl=none:=h
   simp [fG,hx,h1]
  have run:trL lo (S (q+d)).ls (S (q+d)).env (b+(X (q+d)).1)=some res→o.wpIn (FR r) 0 P a w K Q:=by
   intro h3
   rw [← ae4 hsm] at h3
   have hnot:∀bl,res.2=some bl→¬ ((aT b X S q (Lp ord listed) d).nm ι) (b+(X (q+d)).1):=by
    rintro bl hbl ⟨y,g1,g2⟩
    have hm:fG b X S (q+d)=some (b+(X (q+d)).1,bl):=by
     obtain⟨u,bl'⟩:=res
     obtain rfl:bl'=some bl:=hbl
     simp [fG,hx,h1]
    rw [LFd.later (q+d) _ bl (Nat.le_refl _) hpl hm] at g1
    cases g1;cases g2
   obtain⟨u,bl⟩:=res
   cases bl with
   | none=>
    have hmk:=hmk0 rfl
    have hs':=make_none (a:=af) s hbaseLay.rm hc h3 w
    refine aN (ji hc (fun _ _ h=>by cases h)) (R:=fun x w'=>x=l6 ι u∧w'=w) ?_ ?_
    ·exact E5 (by rw [hev (bD hc)];exact hs'.2 o rfl w) ⟨rfl,rfl⟩
    ·rintro x w' ⟨rfl,rfl⟩
     have:=still hE hmk (by rw [hVof,hv];exact hs'.1)
     rwa [hVof,hv] at this
   | some bl=>
    have hm:fG b X S (q+d)=some (b+(X (q+d)).1,bl):=by simp [fG,hx,h1]
    have hn:=hnot bl rfl
    have hs':=jL (a:=af) s (fun _ _=>rfl) hn (qd hc) h3 w
    have hid:∀l:Loc,∀j,(∀blk,fG b X S (q+d)≠some (j,blk))→(ι.upd (b+(X (q+d)).1) l) j=ι j:=fun l j hj=>ι.upd_ne l fun e=>hj bl (by rw [e];exact hm)
    have hbn:¬ (S q).m.has (b+(X (q+d)).1):=fun ⟨y,g1,g2⟩=>hn ⟨y,LFd.sub _ y g1 g2,g2⟩
    have hupd:∀l:Loc,∀j,(aT b X S q (Lp ord listed) d).has j→(ι.upd (b+(X (q+d)).1) l) j=ι j:=fun l j hj=>ι.upd_ne l fun e=>hn (e▸hj)
    have hle2:∀l:Loc,((aT b X S q (Lp ord listed) d).nm ι).le ((aT b X S q (Lp ord (listed.setIfInBounds i true)) (d+1)).nm (ι.upd (b+(X (q+d)).1) l)):=fun l=>
     Mem.O6 (fun j hj=>F.rM D.head D.base.rm.ok (by omega) (by omega) (fun k _ h=>hLmono _ h) hj) (hupd l)
    have hself:ah bl=false→(aT b X S q (Lp ord (listed.setIfInBounds i true)) (d+1)).has (b+(X (q+d)).1):=fun hvb=>
     ⟨bl,(F.lay D.head D.base.rm.ok _ (d+1) (by omega)).laid d _ bl (by omega) (by rw [hLs,if_pos rfl]) hm,hvb⟩
    have hcapl:∀l:Loc,((aT b X S q (Lp ord (listed.setIfInBounds i true)) (d+1)).nm (ι.upd (b+(X (q+d)).1) l)).cap (b+(X (q+d)).1)=l.cap:=fun l=>by
     show ((ι.upd (b+(X (q+d)).1) l) (b+(X (q+d)).1)).cap=l.cap
     rw [Inj.G6]
    cases hs' with
    | made l obj w' hmk=>
     obtain⟨g1,g2⟩:=hmk.blk _ (hle2 l) (hself hmk.live) (hcapl l)
     refine aN (ji hc (fun _ _ h=>by cases h)) (R:=fun x w''=>x=l6 (ι.upd (b+(X (q+d)).1) l) u∧w''=w') ?_ ?_
     ·exact E5 (by rw [hev (bD hc)];exact hmk.run o rfl) ⟨rfl,rfl⟩
     ·rintro x w'' ⟨rfl,rfl⟩
      have:=D.quiet F hnt hp ho hun hr hE (ι':=ι.upd (b+(X (q+d)).1) l) (w':=w'') (Step.push D.base.rm hmk.grew fun j hj=>ι.upd_ne l fun e=>hbn (e▸hj))
       (fun k hk=>by rw [hmk.grew.heap];exact (Array.getElem?_push_lt hk).trans (Array.getElem?_eq_getElem hk).symm) (hid l) (fun id blk hm'=>?_) (by rw [hVof,hv];exact g2)
      ·rw [hVof,hv] at this
       exact hK _ _ _ q this
      ·rw [hm] at hm';cases hm'
       rw [Inj.G6]
       refine⟨by rw [hmk.grew.heap];exact g1,hmk.live,fun _=>⟨⟨hmk.loc,hmk.spot⟩,fun c e fz hcc=>?_⟩⟩
       rw [hmk.grew.heap,hmk.loc,Q7] at hcc
       exact hmk.free c e fz (Option.some.inj hcc)
    | @tail _ pp l hpn hbb hgv hlt=>
     refine aN (ji hc (fun _ _ h=>by cases h)) (R:=fun x w''=>x=l6 (ι.upd (b+(X (q+d)).1) l) u∧w''=w) ?_ ?_
     ·exact E5 (by rw [hev (bD hc)];exact hgv o rfl w) ⟨rfl,rfl⟩
     ·rintro x w'' ⟨rfl,rfl⟩
      have:=D.quiet F hnt hp ho hun hr hE (ι':=ι.upd (b+(X (q+d)).1) l) (w':=w'') ((Step.refl D.base.rm).rename fun j hj=>ι.upd_ne l fun e=>hbn (e▸hj))
       (fun k hk=>rfl) (hid l) (fun id blk hm'=>?_) (by rw [hVof,hv];exact hlt _ (hle2 l) (hself rfl) (hcapl l))
      ·rw [hVof,hv] at this
       exact hK _ _ _ q this
      ·rw [hm] at hm';cases hm'
       rw [Inj.G6]
       refine⟨⟨(hle2 l pp hpn).1,?_⟩,rfl,fun hl=>by cases hl⟩
       rw [hupd l pp hpn];exact hbb
  cases hgd:(X (q+d)).2.guard with
  | none=>rw [hgd] at h1;exact run h1
  | some z=>
   obtain⟨y,wt⟩:=z
   have h1':=h1
   rw [hgd] at h1'
   have h1':bi (isB wt (trO y (S (q+d)).ls (S (q+d)).env)) (trL lo (S (q+d)).ls (S (q+d)).env (b+(X (q+d)).1)) (some (.undef,none))=some res:=h1'
   rw [show wZ (some (y,wt)) (S (q+d)).ls (S (q+d)).env=isB wt (trO y (S (q+d)).ls (S (q+d)).env) from rfl]
   cases hB:isB wt (trO y (S (q+d)).ls (S (q+d)).env) with
   | true=>rw [hB] at h1';exact run h1'
   | false=>
    rw [hB] at h1';cases h1'
    exact skip hE (hmk0 rfl) (by rw [hVof,hv])
 | e eo=>
  rw [hx] at hs hsm
  obtain⟨h1,_,hnp⟩:=hs
  have hE:isE (X (q+d)).2=true:=by simp [isE,hx]
  have hall:∀k,k<d→Lp ord listed (q+k)=true:=fun k hk=>by
   have hkl:q+k<ord.length:=by omega
   have:=hdep _ (F.eff (q+d) i hp hE (q+k) _ (by omega) (List.getElem?_eq_getElem hkl))
   rw [jl (List.getElem?_eq_getElem hkl)];exact this
  have hnoE:∀k,k<d→isE (X (q+k)).2=false:=fun k hk=>by
   cases he:isE (X (q+k)).2 with
   | false=>rfl
   | true=>have h1:=D.high (q+k) (by omega) he;rw [hall k hk] at h1;cases h1
  have hmem:=F.lay_all (L:=Lp ord listed) d (by omega) fun k hk=>⟨hall k hk,hnoE k hk⟩
  rw [hmem] at s hbaseLay
  have fin:∀ι' w',Step P G ι (S (q+d)).m w ι' (S (q+d+1)).m w'→v.lt ((S (q+d+1)).m.nm ι')→K (a.put o.dst (l6 ι' v)) w':=by
   intro ι' w' hst hlt
   obtain⟨ι'',g1,g2⟩:=D.effect F hb hnt hp ho hun hr hE hall hst (by rw [hVof];exact hlt)
   rw [g1,hVof] at g2
   exact hK _ _ _ _ g2
  have run:trE eo cf (S (q+d)).ls (S (q+d)).env (S (q+d)).m=some [⟨v,(S (q+d+1)).m⟩]→o.wpIn (FR r) 0 P a w K Q:=by
   intro h1
   have hnb:AOp.e eo≠.e .bad:=by
    intro h;cases h
    cases h1
   have hc:=hcop hx hnb
   rw [← acZ hsm] at h1
   have:=rF (a:=af) hcf s hbaseLay.rm hc h1 o rfl
   refine fC (wB (cf:=cf) hc h1) (rP (hev (bD hc)) this) ?_ ?_ fun _=>gY
   ·rintro u w' (⟨_,hu,x,hxm,ι',g1,g2,rfl⟩ | ⟨_,_,_,_,_,_,_,h⟩)
    ·cases hu
     obtain rfl:=List.mem_singleton.1 hxm
     exact fin ι' w' g1 g2
    ·cases h
   ·rintro c w' (⟨_,hu,_⟩ | ⟨x,hxm,y,_,hxy,_⟩)
    ·cases hu
    ·obtain rfl:=List.mem_singleton.1 hxm
     exact absurd ⟨y,hxy⟩ hnp
  cases hgd:(X (q+d)).2.guard with
  | none=>rw [hgd] at h1;exact run h1
  | some z=>
   obtain⟨y,wt⟩:=z
   rw [hgd] at h1
   have h1:bi (isB wt (trO y (S (q+d)).ls (S (q+d)).env)) (trE eo cf (S (q+d)).ls (S (q+d)).env (S (q+d)).m) (one .undef (S (q+d)).m)=some [⟨v,(S (q+d+1)).m⟩]:=h1
   rw [show wZ (some (y,wt)) (S (q+d)).ls (S (q+d)).env=isB wt (trO y (S (q+d)).ls (S (q+d)).env) from rfl]
   cases hB:isB wt (trO y (S (q+d)).ls (S (q+d)).env) with
   | true=>rw [hB] at h1;exact run h1
   | false=>
    rw [hB] at h1
    have h1:[(⟨.undef,(S (q+d)).m⟩:VM)]=[⟨v,(S (q+d+1)).m⟩]:=Option.some.inj h1
    simp only [List.cons.injEq,VM.mk.injEq,and_true] at h1
    obtain⟨hv,hm⟩:=h1
    refine⟨fun _ _=>trivial,?_⟩
    have:=fin ι w (by rw [← hm];exact Step.refl hbaseLay.rm) (by rw [← hv];trivial)
    rw [← hv,dM] at this
    exact this
where
 make_none {P:Program} {G:Mem} {ι:Inj} {m:Mem} {w0:World} {slots:List Nat} {done:List (Option Nat)} {ls:List j3} {env:T j3} {a:Act} (s:St P ι (m.nm ι) slots done ls env a.tmps) (hm:RM P G ι m w0.heap) {op:Op} {lo:LOp} (h:cOp P slots done op=some (.a lo)) {u:j3} {nid:Nat}
   (hv:trL lo ls env nid=some (u,none)) (w:World):u.lt (m.nm ι)∧Gives P a.eval op (l6 ι u):=by
  have hn:¬ (m.nm ι) m.next:=fun ⟨_,h3,_⟩=>Nat.lt_irrefl _ (Mem.y9 hm.ok h3)
  have hv':=sl_place hv m.next
  have hs:=jL (a:=a) s (fun _ _=>rfl) hn (qd h) hv' w
  cases hs with
  | none h1 h2=>exact⟨h1,h2⟩
 sl_place {lo:LOp} {ls:List j3} {env:T j3} {u:j3} {nid:Nat} (hv:trL lo ls env nid=some (u,none)) (nid':Nat):trL lo ls env nid'=some (u,none):=by
  cases lo with
  | alloc z=>cases hv
  | box x=>cases hv
  | allocT t z=>cases hv
  | boxT t k x=>obtain⟨_,h⟩:=p9 hv;cases h
  | mkMap=>cases hv
  | buildSlice es len z ps=>obtain⟨c,h1,h⟩:=r9 hv;obtain⟨c2,h2,h⟩:=r9 h;cases h
  | mkSlice es by' z l c=>
   obtain⟨_,_,_,h⟩:=aj hv
   obtain⟨_,_,_,h⟩:=aj h
   obtain⟨_,h⟩:=p9 h
   obtain⟨_,h⟩:=p9 h
   obtain⟨_,h⟩:=p9 h
   cases h
  | strBytes x=>obtain⟨_,_,h⟩:=aZ hv;obtain⟨_,_,h⟩:=r9 h;cases h
  | sl es x lo hi=>
   have key:∀l h,F3 nid es (trO x ls env) l h=some (u,none)→F3 nid' es (trO x ls env) l h=some (u,none):=by
    intro l h hs
    generalize trO x ls env=X at hs
    cases X with
    | nilSlice=>exact hs
    | slice=>exact hs
    | sliceU id off len es'=>
     have hu:∀hh,F3.unk nid es l id off len es' hh=some (u,none)→F3.unk nid' es l id off len es' hh=some (u,none):=by
      intro hh hs
      unfold F3.unk at hs ⊢
      obtain⟨q1,hs⟩:=p9 hs
      obtain⟨q2,hs⟩:=p9 hs
      obtain⟨q3,hs⟩:=p9 hs
      rw [q1,q2,q3]
      simp only [H9]
      cases hb:Nat.blt l len with
      | true=>rw [hb] at hs;exact hs
      | false=>
       rw [hb] at hs
       simp only [J8] at hs ⊢
       cases hz:Nat.beq l 0 with
       | true=>rw [hz] at hs;exact hs
       | false=>rw [hz] at hs;cases hs
     cases h with
     | none=>exact hu len hs
     | some hh=>exact hu hh hs
    | _=>exact hs
   have hv:aH (ny lo) 0 ls env (fun l=>Option.rec (F3 nid es (trO x ls env) l none) (fun h=>kU (h ls env) fun h=>F3 nid es (trO x ls env) l (some h)) (ny hi))=some (u,none):=hv
   show aH (ny lo) 0 ls env (fun l=>Option.rec (F3 nid' es (trO x ls env) l none) (fun h=>kU (h ls env) fun h=>F3 nid' es (trO x ls env) l (some h)) (ny hi))=some (u,none)
   have inner:∀l,(Option.rec (F3 nid es (trO x ls env) l none) (fun h=>kU (h ls env) fun h=>F3 nid es (trO x ls env) l (some h)) (ny hi):LR)=some (u,none)→
     (Option.rec (F3 nid' es (trO x ls env) l none) (fun h=>kU (h ls env) fun h=>F3 nid' es (trO x ls env) l (some h)) (ny hi):LR)=some (u,none):=by
    intro l h
    cases ht:ny hi with
    | none=>rw [ht] at h;exact key l none h
    | some g=>
     rw [ht] at h
     obtain⟨k,n,h1,h2⟩:=aj h
     show kU (g ls env) (fun h=>F3 nid' es (trO x ls env) l (some h))=_
     rw [h1];exact key l (some n) h2
   cases ht:ny lo with
   | none=>rw [ht] at hv;exact inner 0 hv
   | some g=>
    rw [ht] at hv
    obtain⟨k,n,h1,h2⟩:=aj hv
    show kU (g ls env) _=_
    rw [h1];exact inner n h2
end
theorem iq {α:Type}{f:α→Option Nat}:∀{l:List α},(l.filterMap f).Nodup→∀{i j:Nat} {x y:α} {t:Nat},l[i]?=some x→l[j]?=some y→f x=some t→f y=some t→i=j
 | [],_,i,j,x,y,t,hi,_,_,_=>by simp at hi
 | z::l,h,i,j,x,y,t,hi,hj,hx,hy=>by
  have hmem:∀{k:Nat} {u:α},l[k]?=some u→f u=some t→t∈l.filterMap f:=fun hk hu=>List.mem_filterMap.2 ⟨_,List.mem_of_getElem? hk,hu⟩
  cases hz:f z with
  | none=>
   rw [List.filterMap_cons_none hz] at h
   cases i with
   | zero=>simp at hi;subst hi;rw [hz] at hx;cases hx
   | succ i=>
    cases j with
    | zero=>simp at hj;subst hj;rw [hz] at hy;cases hy
    | succ j=>exact congrArg Nat.succ (iq h (i:=i) (j:=j) (by simpa using hi) (by simpa using hj) hx hy)
  | some u=>
   rw [List.filterMap_cons_some hz] at h
   obtain⟨h1,h2⟩:=List.nodup_cons.1 h
   cases i with
   | zero=>
    simp at hi;subst hi
    rw [hz] at hx;cases hx
    cases j with
    | zero=>rfl
    | succ j=>exact absurd (hmem (by simpa using hj) hy) h1
   | succ i=>
    cases j with
    | zero=>
     simp at hj;subst hj
     rw [hz] at hy;cases hy
     exact absurd (hmem (by simpa using hi) hx) h1
    | succ j=>exact congrArg Nat.succ (iq h2 (i:=i) (j:=j) (by simpa using hi) (by simpa using hj) hx hy)
section
variable {P:Program}{G:Mem}{slots:List Nat}{nt:Nat}{cf:y8}{ops:Array Oper}
theorem yN {α:Type}(l:List α)(p k:Nat)(hp:p≤l.length)(hk:k<p):(l.take p).reverse[k]?=l[p-1-k]?:=by
 rw [List.getElem?_reverse (by simp;omega),List.length_take,List.getElem?_take,if_pos (by omega)]
 congr 1;omega
theorem Lv {ord:List Nat}{X:Nat→Nat×Inst}{insts:List Inst}(hlen:insts.length=ord.length)(hX:∀p x,insts[p]?=some x→(X p).2=x):∀p,p≤ord.length→
  BR ord X p=(((((ord.zip insts).take p).filter fun y=>isE y.2).map (·.1)).reverse):=by
 intro p
 induction p with
 | zero=>intro _;rfl
 | succ p ih=>
  intro hp
  have h1:p<(ord.zip insts).length:=by rw [List.length_zip];omega
  have h2:(ord.zip insts)[p]=(ord[p]'(by omega),insts[p]'(by omega)):=List.getElem_zip ..
  rw [List.take_succ_eq_append_getElem h1,List.filter_append,List.map_append,List.reverse_append,← ih (by omega)]
  have h3:(X p).2=insts[p]'(by omega):=hX p _ (List.getElem?_eq_getElem (by omega))
  have h4:ord.getD p 0=ord[p]'(by omega):=by rw [List.getD_eq_getElem?_getD,List.getElem?_eq_getElem (by omega)];rfl
  simp only [BR,h2,h3,h4]
  cases he:isE (insts[p]'(by omega))<;>simp [he]
theorem tQ {α:Type}(f:α→Bool)(l:List α){p q:Nat}(hpq:p<q)(hp:p<l.length)(hf:f l[p]=true):((l.take p).filter f).length<((l.take q).filter f).length:=by
 have h1:l.take (p+1)=(l.take q).take (p+1):=by rw [List.take_take];congr 1;omega
 have h2:((l.take (p+1)).filter f).length≤((l.take q).filter f).length:=by
  rw [h1]
  exact ((List.take_sublist _ _).filter f).length_le
 rw [List.take_succ_eq_append_getElem hp,List.filter_append] at h2
 simp [hf] at h2
 omega
theorem Ji {n:Nat}{l:List (Nat×Inst)}(hcl:vH P slots ops=some (.dreg n l))(hin:∀(i:Nat)(o:Oper)(t:Tmp),ops[i]?=some o→o.dst=some t→t<nt){b:Nat}{S:Nat→DS}(hls:(S 0).ls=[])(hgs:(S 0).gs=[(S 0).m])(hst:∀p x,l[p]?=some x→FV cf b x (S p) (S (p+1))):
  ∃ord X,Fixed P slots nt cf b ops ord X S∧l.length=ord.length∧∀p x,l[p]?=some x→X p=x:=by
 unfold vH at hcl
 split at hcl
 ·cases hcl
 ·rename_i insts hci
  split at hcl
  ·rename_i hok
   cases hcl
   generalize hord:canon (CX ops) (masks ops.toList) ops.size=ord at *
   simp only [Kh,Bool.and_eq_true] at hok
   obtain⟨⟨⟨⟨c1,c2⟩,c3⟩,c4⟩,c5⟩:=hok
   obtain⟨hlen,hat⟩:=FY _ _ _ hci
   obtain⟨hnl,hnum⟩:=Au (masks ops.toList) (ord.zip insts) [] 0
   have hzl:(ord.zip insts).length=ord.length:=by rw [List.length_zip];omega
   generalize hl:numbered (masks ops.toList) (ord.zip insts) [] 0=l at *
   have hz:∀p i x,ord[p]?=some i→insts[p]?=some x→(ord.zip insts)[p]?=some (i,x):=fun p i x h1 h2=>by rw [List.getElem?_zip_eq_some];exact⟨h1,h2⟩
   have hX:∀p i,ord[p]?=some i→∃x o,insts[p]?=some x∧ops[i]?=some o∧lD P slots (aY ops ord p) ops i=some (x,o.dst)∧(l.getD p default).2=x∧l[p]?=some (l.getD p default):=by
    intro p i hp
    obtain⟨x,o,h1,h2,h3⟩:=hat p i hp
    obtain⟨c,h4,_⟩:=hnum p i x (hz p i x hp h1)
    refine⟨x,o,h1,h2,by simpa using h3,by rw [List.getD_eq_getElem?_getD,h4];rfl,by rw [List.getD_eq_getElem?_getD,h4];rfl⟩
   have hlt:∀i∈ord,i<ops.size:=fun i hi=>Eq.mp Nat.blt_eq (List.all_eq_true.1 c2 i hi)
   have hchk:∀p i x,ord[p]?=some i→insts[p]?=some x→oI (masks ops.toList) ops i x ((ord.zip insts).take p).reverse=true:=fun p i x h1 h2=>by
    have:=BQ c5 p (i,x) (hz p i x h1 h2)
    simpa using this
   have hbef:∀p q j,q<p→p≤ord.length→ord[q]?=some j→∃x,(j,x)∈((ord.zip insts).take p).reverse∧insts[q]?=some x:=fun p q j hq hp hj=>by
    obtain⟨x,_,h1,_⟩:=hX q j hj
    refine⟨x,List.mem_reverse.2 ?_,h1⟩
    refine List.mem_of_getElem? (i:=q) ?_
    rw [List.getElem?_take,if_pos hq];exact hz q j x hj h1
   have hopd:∀p i,p<ord.length→ord[p]?=some i→∀y,Iz (masks ops.toList) i ((ord.zip insts).take p).reverse y=true→Ga ops ord (fun p=>l.getD p default) p i y:=by
    intro p i hp hi y hy
    cases y with
    | con c=>trivial
    | loc k=>
     simp only [Iz] at hy
     split at hy
     ·rename_i z hz'
      have hk:k<p:=by
       have:=(List.getElem?_eq_some_iff.1 hz').1
       simp at this;omega
      rw [yN _ _ _ (by omega) hk] at hz'
      obtain⟨h1,_⟩:=List.getElem?_zip_eq_some.1 hz'
      exact⟨z.1,hk,h1,U7 ops i z.1 hy⟩
     ·cases hy
    | slot j=>
     intro q hq e
     obtain⟨x,hm,hx⟩:=hbef p q (ord[q]'(by omega)) hq (by omega) (List.getElem?_eq_getElem (by omega))
     obtain⟨x',o',h1,_,_,h2,_⟩:=hX q (ord[q]'(by omega)) (List.getElem?_eq_getElem (by omega))
     rw [hx] at h1;cases h1
     have:=List.all_eq_true.1 hy _ hm
     rw [h2] at e
     simp [e] at this
   refine⟨ord,fun p=>l.getD p default,⟨nS c1,fun i hi=>?_,hlt,fun p i hp=>?_,fun p hp=>?_,fun p i hp hE q j hq hj=>?_,fun p i o hp ho e he hb=>?_,fun i j oi oj t hi hj h1 h2=>?_,fun i o t ho ht q oq hq hne hqt=>?_,fun p i hp y hy=>?_,
    fun p i y wt hp hg=>?_,fun p i o hp ho=>?_,fun p q o o' hpq hq ho ho'=>?_,hin,hgs,hls⟩,by rw [hnl,hzl],fun p x h=>by simp [List.getD_eq_getElem?_getD,h]⟩
   ·have:=List.all_eq_true.1 c3 i (List.mem_range.2 hi)
    simpa using this
   ·obtain⟨x,o,h1,h2,h3,h4,_⟩:=hX p i hp
    obtain⟨o',g1,g2,g3,g4,g5⟩:=eD h3
    rw [h2] at g1;cases g1
    exact⟨o,h2,by show (l.getD p default).2.op=_;rw [h4];exact g3,by show (l.getD p default).2.dst=_;rw [h4];exact g4,by show gX _ _ _ (l.getD p default).2.guard;rw [h4];exact g5⟩
   ·obtain⟨x,o,_,_,_,_,h5⟩:=hX p (ord[p]) (List.getElem?_eq_getElem hp)
    exact hst p _ h5
   ·obtain⟨x,o,h1,h2,h3,h4,_⟩:=hX p i hp
    have hE:isE (l.getD p default).2=true:=hE
    rw [h4] at hE
    have hc:=hchk p i x hp h1
    simp only [oI,Bool.and_eq_true] at hc
    have hc:=hc.1.1.1
    unfold isE at hE
    split at hE
    ·rename_i eo heo
     rw [heo] at hc
     obtain⟨x',hm,_⟩:=hbef p q j hq (by have:=(List.getElem?_eq_some_iff.1 hp).1;omega) hj
     exact U7 ops i j (List.all_eq_true.1 hc _ hm)
    ·cases hE
   ·obtain⟨x,o',h1,h2,h3,h4,_⟩:=hX p i hp
    have hc:=hchk p i x hp h1
    simp only [oI,Bool.and_eq_true] at hc
    have hc:=hc.1.1.2
    rw [ho] at hc
    simp only [Bool.and_eq_true] at hc
    have:=List.all_eq_true.1 hc.1 e (by simpa using he)
    rw [hb] at this
    simp only [Bool.not_true,Bool.false_or] at this
    obtain⟨y,hy,hye⟩:=List.any_eq_true.1 this
    obtain⟨q,hq⟩:=List.getElem?_of_mem (List.mem_reverse.1 hy)
    rw [List.getElem?_take] at hq
    split at hq
    ·rename_i hqp
     obtain⟨g1,_⟩:=List.getElem?_zip_eq_some.1 hq
     exact⟨q,hqp,by rw [g1];simpa using hye⟩
    ·cases hq
   ·exact iq (nS c4) (by simpa using hi) (by simpa using hj) h1 h2
   ·obtain⟨p,hp⟩:=List.getElem?_of_mem (show i∈ord from by have:=List.all_eq_true.1 c3 i (List.mem_range.2 (Array.getElem?_eq_some_iff.1 ho).1);simpa using this)
    obtain⟨x,o',h1,h2,h3,h4,_⟩:=hX p i hp
    have hc:=hchk p i x hp h1
    simp only [oI,Bool.and_eq_true] at hc
    have hc:=hc.1.1.2
    rw [ho] at hc
    simp only [Bool.and_eq_true] at hc
    have:=List.all_eq_true.1 (List.all_eq_true.1 hc.2 t ht) q (List.mem_range.2 (Array.getElem?_eq_some_iff.1 hq).1)
    rw [hq] at this
    simp only [hqt,bne_self_eq_false,Bool.or_false,Bool.or_eq_true,beq_iff_eq] at this
    rcases this with (h | h) | h
    ·exact absurd h hne
    ·exact .inl (U7 ops i q h)
    ·exact .inr (U7 ops q i h)
   ·obtain⟨x,o',h1,h2,h3,h4,_⟩:=hX p i hp
    have hc:=hchk p i x hp h1
    simp only [oI,Bool.and_eq_true] at hc
    have hy:y∈Et (l.getD p default).2.op:=hy
    rw [h4] at hy
    exact hopd p i (List.getElem?_eq_some_iff.1 hp).1 hp y (List.all_eq_true.1 hc.1.2 y hy)
   ·obtain⟨x,o',h1,h2,h3,h4,_⟩:=hX p i hp
    have hc:=hchk p i x hp h1
    simp only [oI,Bool.and_eq_true] at hc
    have hg:(l.getD p default).2.guard=some (y,wt):=hg
    rw [h4] at hg
    have hc:=hc.2
    rw [hg] at hc
    exact hopd p i (List.getElem?_eq_some_iff.1 hp).1 hp y hc
   ·obtain⟨x,o',h1,h2,h3,h4,h5⟩:=hX p i hp
    obtain⟨c,g1,g2,_⟩:=hnum p i x (hz p i x hp h1)
    have ho:(l.getD p default).2.op=.r o:=ho
    rw [h4] at ho
    have hc:(l.getD p default).1=c:=by rw [List.getD_eq_getElem?_getD,g1];rfl
    show (l.getD p default).1=_
    rw [hc,g2 (by simp [isR,ho]),List.append_nil,Lv hlen (fun p x hp'=>?_) p (Nat.le_of_lt (List.getElem?_eq_some_iff.1 hp).1)]
    have hpl:p<ord.length:=by have:=(List.getElem?_eq_some_iff.1 hp').1;omega
    obtain⟨x',_,g3,_,_,g4,_⟩:=hX p (ord[p]) (List.getElem?_eq_getElem hpl)
    rw [hp'] at g3;cases g3;exact g4
   ·have hp:p<ord.length:=by omega
    obtain⟨x,o1,h1,h2,h3,h4,h5⟩:=hX p (ord[p]) (List.getElem?_eq_getElem hp)
    obtain⟨y,o2,k1,k2,k3,k4,k5⟩:=hX q (ord[q]) (List.getElem?_eq_getElem hq)
    obtain⟨c,g1,_,g2⟩:=hnum p _ x (hz p _ x (List.getElem?_eq_getElem hp) h1)
    obtain⟨c',g3,_,g4⟩:=hnum q _ y (hz q _ y (List.getElem?_eq_getElem hq) k1)
    have ho:(l.getD p default).2.op=.a o:=ho
    have ho':(l.getD q default).2.op=.a o':=ho'
    rw [h4] at ho;rw [k4] at ho'
    show (l.getD p default).1<(l.getD q default).1
    rw [show (l.getD p default).1=c from by rw [List.getD_eq_getElem?_getD,g1];rfl,show (l.getD q default).1=c' from by rw [List.getD_eq_getElem?_getD,g3];rfl,g2 (by simp [isR,ho]),g4 (by simp [isR,ho'])]
    have hzp:(ord.zip insts)[p]'(by rw [hzl];exact hp)=(ord[p],x):=by
     have:=hz p _ x (List.getElem?_eq_getElem hp) h1
     rw [List.getElem?_eq_getElem (by rw [hzl];exact hp)] at this
     exact Option.some.inj this
    have:=tQ (fun y:Nat×Inst=>isA y.2) (ord.zip insts) hpq (by rw [hzl];exact hp) (by rw [hzp];simp [isA,ho])
    omega
  ·cases hcl
def qc (n:Nat)(listed:Array Bool):Nat:=((List.range n).filter fun i=>!listed.getD i false).length
theorem rQ {listed:Array Bool}{n i:Nat}(hn:listed.size=n)(hi:i<n)(hun:listed.getD i false=false):qc n (listed.setIfInBounds i true)+1=qc n listed:=by
 unfold qc
 have key:∀l:List Nat,l.Nodup→(l.filter fun j=>!(listed.setIfInBounds i true).getD j false).length+(if i∈l then 1 else 0)=(l.filter fun j=>!listed.getD j false).length:=by
  intro l
  induction l with
  | nil=>intro _;simp
  | cons x l ih=>
   intro h
   obtain⟨h1,h2⟩:=List.nodup_cons.1 h
   have:=ih h2
   by_cases hx:x=i
   ·subst hx
    rw [if_neg h1] at this
    rw [if_pos (by simp),List.filter_cons_of_neg (by rw [K3 _ _ _ (by omega),if_pos rfl];simp),List.filter_cons_of_pos (by rw [hun];rfl),List.length_cons]
    omega
   ·have e:(listed.setIfInBounds i true).getD x false=listed.getD x false:=by rw [K3 _ _ _ (by omega),if_neg hx]
    have hmem:(i∈x::l)↔i∈l:=List.mem_cons.trans ⟨fun h=>h.resolve_left (fun e=>hx e.symm),.inr⟩
    simp only [hmem]
    cases hl:listed.getD x false with
    | true=>rw [List.filter_cons_of_neg (by rw [e,hl];simp),List.filter_cons_of_neg (by rw [hl];simp)];exact this
    | false=>rw [List.filter_cons_of_pos (by rw [e,hl];rfl),List.filter_cons_of_pos (by rw [hl];rfl),List.length_cons,List.length_cons];omega
 have:=key (List.range n) List.nodup_range
 rw [if_pos (List.mem_range.2 hi)] at this
 exact this
theorem Jj {b:Nat}{ord:List Nat}{X:Nat→Nat×Inst}{S:Nat→DS}{listed:Array Bool}(F:Fixed P slots nt cf b ops ord X S)(hall:∀p,p<ord.length→Lp ord listed p=true):∀p,p≤ord.length→BX ord X S listed p=(S p).env:=by
 intro p
 induction p with
 | zero=>intro _;rfl
 | succ p ih=>
  intro hp
  obtain⟨_,h2⟩:=F.ls (p:=p) (by omega)
  rw [h2,← ih (by omega)]
  show trD (X p).2.dst (vm ord S listed p) _=_
  simp [vm,hall p (by omega)]
theorem M8.Lx {ι:Inj}{n:Nm}{env:T j3}{A B:Array Value}(h:M8 ι n slots env A)(hs:A.size=B.size)(he:∀t,A.getD t undef=B.getD t undef):M8 ι n slots env B:=
 ⟨h.ok,h.small,fun t j ht=>by
  obtain⟨h1,v,h2,h3,h4⟩:=h.val t j ht
  exact⟨by omega,v,h2,h3,by rw [← he];exact h4⟩⟩
def Dz (P:Program)(G:Mem)(slots:List Nat)(nt:Nat)(cf:y8)(r:Option Nat):Prop:=
 ∀(ops:Array Oper) (n:Nat) (l:List (Nat×Inst)),vH P slots ops=some (.dreg n l)→(∀(i:Nat) (o:Oper) (t:Tmp),ops[i]?=some o→o.dst=some t→t<nt)→
  ∀(Q:Exit→Act→World→Prop) (env:T j3) (m:Mem) (ι:Inj) (w:World) (a:Act) (outs:List EM),
  RM P G ι m w.heap→M8 ι (m.nm ι) slots env a.tmps→nt≤a.tmps.size→oG l cf m.next [] env (reserve n m) [reserve n m]=some outs→
  (∀e∈outs,e.px=none→e.mks=[]→∀ι' w' a',Step P G ι m w ι' e.m w'→M8 ι' (e.m.nm ι') slots e.env a'.tmps→a'.defers=a.defers→a'.tmps.size=a.tmps.size→Q .normal a' w')→
  (∀e∈outs,∀y,e.px=some y→e.mks=[]→∀ι' w' a',Step P G ι m w ι' e.m w'→y.lt (e.m.nm ι')→M8 ι' (e.m.nm ι') slots e.env a'.tmps→a'.defers=a.defers→a'.tmps.size=a.tmps.size→Q (.panic [{v:=l6 ι' y,recovered:=false}]) a' w')→
  wpAnyIn (FR r) 0 P .any ops Q ops.size (Array.replicate ops.size false) a {w with drawn:=w.drawn+1}
theorem rR (hcf:qj P G cf)(slots:List Nat)(nt:Nat)(r:Option Nat):Dz P G slots nt cf r:=by
 intro ops n l hcl hin Q env m ι w a outs hm hen hnt hv hQ hQp
 obtain⟨S,hS0,hch⟩:=Dx (cf:=cf) (b:=m.next) l ⟨[],env,reserve n m,[reserve n m]⟩ outs hv
 have hss:∀p x,l[p]?=some x→FV cf m.next x (S p) (S (p+1)):=by
  rcases hch with⟨h,_⟩ | ⟨N,Dd,y,m',h,_⟩
  ·exact fun p x hp=>.inl (h p x hp)
  ·intro p x hp
   rcases h.step p x hp with⟨_,h⟩ | ⟨_,_,h,_⟩
   ·exact .inl h
   ·exact .inr h
 obtain⟨ord,X,F,hll,hXl⟩:=Ji (cf:=cf) (b:=m.next) (S:=S) hcl hin (by rw [hS0]) (by rw [hS0]) hss
 have hget0:∀p,p<ord.length→∃x,l[p]?=some x∧X p=x:=fun p hp=>⟨l[p]'(by omega),List.getElem?_eq_getElem (by omega),hXl p _ (List.getElem?_eq_getElem (by omega))⟩
 have hb:m.lim≤m.next:=hm.limn
 have hen0:M8 ι (m.nm ι) slots (S 0).env a.tmps:=by rw [hS0];exact hen
 have hst0:Step P G ι m w ι (reserve n m) {w with drawn:=w.drawn+1}:=(Step.drew hm _).trans (pz n (Step.drew hm (w.drawn+1)).rm)
 have hget:∀i,(Array.replicate ops.size false).getD i false=false:=fun i=>by
  rw [Array.getD_eq_getD_getElem?,Array.getElem?_replicate];split<;>rfl
 have hL0:∀p,Lp ord (Array.replicate ops.size false) p=false:=fun p=>by
  unfold Lp
  split
  ·exact hget _
  ·rfl
 rcases hch with⟨hlv,hout⟩ | ⟨N,Dd,y,m',hPan,hout⟩
 ·have hlive:∀p,p<ord.length→DStep cf m.next (X p) (S p) (S (p+1)):=fun p hp=>by
   obtain⟨x,hx1,rfl⟩:=hget0 p hp
   exact hlv p _ hx1
  have main:∀(fuel:Nat) (listed:Array Bool) (a':Act) (w':World) (ι':Inj) (q:Nat),ni P G m.next ops ord X S ι m w a listed a' w' ι' q→qc ops.size listed=fuel→
    wpAnyIn (FR r) 0 P .any ops Q fuel listed a' w':=by
   intro fuel
   induction fuel with
   | zero=>
    intro listed a' w' ι' q D hleft
    have hall:∀i,i<ops.size→listed.getD i false=true:=fun i hi=>by
     cases hl:listed.getD i false with
     | true=>rfl
     | false=>
      have:i∈(List.range ops.size).filter fun i=>!listed.getD i false:=List.mem_filter.2 ⟨List.mem_range.2 hi,by rw [hl];rfl⟩
      rw [List.length_eq_zero_iff.1 hleft] at this
      cases this
    have hL:∀p,p<ord.length→Lp ord listed p=true:=fun p hp=>by
     rw [jl (List.getElem?_eq_getElem hp)];exact hall _ (F.lt _ (List.getElem_mem hp))
    refine⟨?_,?_⟩
    ·unfold Region.ready
     refine List.filter_eq_nil_iff.2 fun i hi=>?_
     have hi:=List.mem_range.1 hi
     have h1:listed.getD i true=true:=by
      have:=hall i hi
      rw [Array.getD_eq_getD_getElem?,Array.getElem?_eq_getElem (by rw [D.len];exact hi)] at this ⊢
      exact this
     simp [h1]
    ·have hq:=D.hq
     have hfin:=F.lay_all (q:=q) (L:=Lp ord listed) (ord.length-q) (by omega) fun k hk=>⟨hL _ (by omega),by
      cases he:isE (X (q+k)).2 with
      | false=>rfl
      | true=>have:=D.high (q+k) (by omega) he;rw [hL _ (by omega)] at this;cases this⟩
     rw [show q+(ord.length-q)=ord.length from by omega] at hfin
     have hst:=D.lay F hb (ord.length-q) (by omega)
     have s:=D.st F hb hen0 hnt (ord.length-q) (by omega) ord.length (by omega)
     rw [hfin] at hst s
     have henv:=s.env
     rw [Jj F hL ord.length (Nat.le_refl _)] at henv
     refine hQ ⟨(S ord.length).env,(S ord.length).m,none,[]⟩ (by rw [hout,← hll];exact List.mem_singleton.2 rfl) rfl rfl ι' w' a' hst (henv.Lx (by rw [ig,D.sz]) fun t=>?_) D.defs D.sz
     by_cases hw:∃(i:Nat) (o:Oper),ops[i]?=some o∧o.dst=some t
     ·obtain⟨i,o,ho,ht⟩:=hw
      obtain⟨p,hp⟩:=List.getElem?_of_mem (F.all i (Array.getElem?_eq_some_iff.1 ho).1)
      have hpl:=(List.getElem?_eq_some_iff.1 hp).1
      rw [D.tw p i o t hp (hall i (Array.getElem?_eq_some_iff.1 ho).1) ho ht,wH F hnt hp ho ht ord.length hpl]
      simp [vm,hL p hpl]
     ·rw [D.tn t fun i o _ ho ht=>hw ⟨i,o,ho,ht⟩,mE ord.length fun r i o _ _ ho ht=>hw ⟨i,o,ho,ht⟩]
   | succ fuel ih=>
    intro listed a' w' ι' q D hleft
    refine⟨fun hnil=>?_,fun i hi=>?_⟩
    ·
     exfalso
     have hex:∃p,p<ord.length∧Lp ord listed p=false:=by
      have:((List.range ops.size).filter fun i=>!listed.getD i false)≠[]:=fun e=>by unfold qc at hleft;rw [e] at hleft;cases hleft
      obtain⟨i,hi⟩:=List.exists_mem_of_ne_nil _ this
      obtain⟨h1,h2⟩:=List.mem_filter.1 hi
      obtain⟨p,hp⟩:=List.getElem?_of_mem (F.all i (List.mem_range.1 h1))
      exact⟨p,(List.getElem?_eq_some_iff.1 hp).1,by rw [jl hp];simpa using h2⟩
     have hmin:∀N,(∃p,p<N∧p<ord.length∧Lp ord listed p=false)→∃p,p<ord.length∧Lp ord listed p=false∧∀q,q<p→Lp ord listed q=true:=by
      intro N
      induction N with
      | zero=>rintro⟨p,h,_⟩;omega
      | succ N ihN=>
       rintro⟨p,h1,h2,h3⟩
       by_cases hx:∃p,p<N∧p<ord.length∧Lp ord listed p=false
       ·exact ihN hx
       ·refine⟨p,h2,h3,fun q hq=>?_⟩
        cases hl:Lp ord listed q with
        | true=>rfl
        | false=>exact absurd ⟨q,by omega,by omega,hl⟩ hx
     obtain⟨p0,hp0,hp1⟩:=hex
     obtain⟨p,h1,h2,h3⟩:=hmin (p0+1) ⟨p0,by omega,hp0,hp1⟩
     have hp:=List.getElem?_eq_getElem h1
     have hmem:ord[p]∈Region.ready .any ops listed:=by
      obtain⟨o,ho,_⟩:=F.inst p _ hp
      refine mem_ready.2 ⟨?_,o,ho,fun e he hbnd=>?_⟩
      ·rw [jl hp] at h2
       have hlt:ord[p]<listed.size:=by rw [D.len];exact F.lt _ (List.getElem_mem h1)
       rw [Array.getD_eq_getD_getElem?,Array.getElem?_eq_getElem hlt] at h2 ⊢
       exact h2
      ·obtain⟨q',hq',hq2⟩:=F.edges p _ o hp ho e he hbnd
       have:=h3 q' hq'
       rw [jl hq2] at this;exact this
     rw [hnil] at hmem;cases hmem
    ·obtain⟨hun,o,ho,hr⟩:=mem_ready.1 hi
     have hlt:i<listed.size:=by rw [D.len];exact (Array.getElem?_eq_some_iff.1 ho).1
     have hun:listed.getD i false=false:=by
      rw [Array.getD_eq_getD_getElem?,Array.getElem?_eq_getElem hlt] at hun ⊢
      exact hun
     refine ni.op hcf F hb hen0 hnt D ho hun hr (fun p hp=>hlive p (List.getElem?_eq_some_iff.1 hp).1) fun a2 w2 ι2 q2 D2=>?_
     refine ih _ a2 w2 ι2 q2 D2 ?_
     have:=rQ D.len (by rw [← D.len];exact hlt) hun
     omega
  refine main _ _ a _ ι 0 ⟨Nat.zero_le _,.inl rfl,fun p hp=>by omega,fun p _ _=>hL0 p,by rw [hS0];exact hst0,(fun d i blk h=>by rw [hL0] at h;cases h),(fun d d' i i' blk blk' _ h=>by rw [hL0] at h;cases h),
   (fun d h=>by rw [hL0] at h;cases h),(fun p hp=>by omega),(fun p i o t _ h=>by rw [hget] at h;cases h),fun t _=>rfl,rfl,rfl,(fun i o h=>by rw [hget] at h;cases h),by simp⟩ ?_
  unfold qc
  rw [List.filter_eq_self.2 (fun i _=>by rw [hget];rfl),List.length_range]
 ·obtain⟨xN,eoN,hlN,hoN,hgN⟩:=hPan.at_
  have hNlt:N<ord.length:=by have:=(List.getElem?_eq_some_iff.1 hlN).1;omega
  obtain⟨iN,hpN⟩:∃i,ord[N]?=some i:=⟨_,List.getElem?_eq_getElem hNlt⟩
  have hiN:iN<ops.size:=F.lt _ (List.mem_of_getElem? hpN)
  have hXN:=hXl N xN hlN
  have hxN:(X N).2.op=.e eoN:=by rw [hXN];exact hoN
  have h1N:Ir (X N).2.guard (trE eoN) cf (S N).ls (S N).env (S N).m=some [⟨.pan y,m'⟩]:=by rw [hXN];exact hgN
  have deadDep:∀p i,ord[p]?=some i→Dd p=true→p=N∨Dep ops i iN:=by
   intro p
   induction p using Nat.strongRecOn with
   | _ p ihp=>
    intro i hp hd
    have hpl:=(List.getElem?_eq_some_iff.1 hp).1
    obtain⟨x,hx1,hx2⟩:=hget0 p hpl
    rcases hPan.step p x hx1 with⟨h,_⟩ | ⟨hNp,_,_,hw⟩
    ·rw [hd] at h;cases h
    ·rcases hw with h | h | ⟨k,hk,q,hqp,hkq,hq⟩
     ·exact .inl h
     ·by_cases hpN':p=N
      ·exact .inl hpN'
      ·obtain⟨eo,he⟩:=h
       exact .inr (F.eff p i hp (by rw [hx2];simp [isE,he]) N iN (by omega) hpN)
     ·have hok:Ga ops ord X p i (.loc k):=by
       rcases hk with hk | ⟨wt,hk⟩
       ·exact F.opd p i hp _ (by rw [hx2];exact hk)
       ·exact F.opdg p i _ wt hp (by rw [hx2];exact hk)
      obtain⟨j,hj1,hj2,hj3⟩:=hok
      have e:p-1-k=q:=by omega
      rw [e] at hj2
      rcases ihp q hqp j hj2 hq with rfl | h
      ·obtain rfl:=Option.some.inj (hj2.symm.trans hpN)
       exact .inr hj3
      ·exact .inr (hj3.trans h)
  have main:∀(fuel:Nat) (listed:Array Bool) (a':Act) (w':World) (ι':Inj) (q:Nat),ni P G m.next ops ord X S ι m w a listed a' w' ι' q→listed.getD iN false=false→qc ops.size listed=fuel→
    wpAnyIn (FR r) 0 P .any ops Q fuel listed a' w':=by
   intro fuel
   induction fuel with
   | zero=>
    intro listed a' w' ι' q D hNl hleft
    exfalso
    have:iN∈(List.range ops.size).filter fun i=>!listed.getD i false:=List.mem_filter.2 ⟨List.mem_range.2 hiN,by rw [hNl];rfl⟩
    rw [List.length_eq_zero_iff.1 hleft] at this
    cases this
   | succ fuel ih=>
    intro listed a' w' ι' q D hNl hleft
    refine⟨fun hnil=>?_,fun i hi=>?_⟩
    ·
     exfalso
     have hex:∃p,p<ord.length∧Lp ord listed p=false:=by
      have:((List.range ops.size).filter fun i=>!listed.getD i false)≠[]:=fun e=>by unfold qc at hleft;rw [e] at hleft;cases hleft
      obtain⟨i,hi⟩:=List.exists_mem_of_ne_nil _ this
      obtain⟨h1,h2⟩:=List.mem_filter.1 hi
      obtain⟨p,hp⟩:=List.getElem?_of_mem (F.all i (List.mem_range.1 h1))
      exact⟨p,(List.getElem?_eq_some_iff.1 hp).1,by rw [jl hp];simpa using h2⟩
     have hmin:∀N,(∃p,p<N∧p<ord.length∧Lp ord listed p=false)→∃p,p<ord.length∧Lp ord listed p=false∧∀q,q<p→Lp ord listed q=true:=by
      intro N
      induction N with
      | zero=>rintro⟨p,h,_⟩;omega
      | succ N ihN=>
       rintro⟨p,h1,h2,h3⟩
       by_cases hx:∃p,p<N∧p<ord.length∧Lp ord listed p=false
       ·exact ihN hx
       ·refine⟨p,h2,h3,fun q hq=>?_⟩
        cases hl:Lp ord listed q with
        | true=>rfl
        | false=>exact absurd ⟨q,by omega,by omega,hl⟩ hx
     obtain⟨p0,hp0,hp1⟩:=hex
     obtain⟨p,h1,h2,h3⟩:=hmin (p0+1) ⟨p0,by omega,hp0,hp1⟩
     have hp:=List.getElem?_eq_getElem h1
     have hmem:ord[p]∈Region.ready .any ops listed:=by
      obtain⟨o,ho,_⟩:=F.inst p _ hp
      refine mem_ready.2 ⟨?_,o,ho,fun e he hbnd=>?_⟩
      ·rw [jl hp] at h2
       have hlt:ord[p]<listed.size:=by rw [D.len];exact F.lt _ (List.getElem_mem h1)
       rw [Array.getD_eq_getD_getElem?,Array.getElem?_eq_getElem hlt] at h2 ⊢
       exact h2
      ·obtain⟨q',hq',hq2⟩:=F.edges p _ o hp ho e he hbnd
       have:=h3 q' hq'
       rw [jl hq2] at this;exact this
     rw [hnil] at hmem;cases hmem
    ·obtain⟨hun,o,ho,hr⟩:=mem_ready.1 hi
     have hlt:i<listed.size:=by rw [D.len];exact (Array.getElem?_eq_some_iff.1 ho).1
     have hun:listed.getD i false=false:=by
      rw [Array.getD_eq_getD_getElem?,Array.getElem?_eq_getElem hlt] at hun ⊢
      exact hun
     by_cases hiN':i=iN
     ·subst hiN'
      refine ni.pan hcf F hb hen0 hnt D hpN ho hun hr hxN h1N (fun p hp hpl=>?_) fun ι2 w2 hst hlt2 henv2=>?_
      ·obtain⟨x,hx1,rfl⟩:=hget0 p hpl
       exact hPan.dst p _ hp hx1
      ·exact hQp _ (by rw [hout];exact List.mem_singleton.2 rfl) y rfl rfl ι2 w2 a' hst hlt2 henv2 D.defs D.sz
     ·have hdep:∀j,Dep ops i j→listed.getD j false=true:=fun j hj=>hj.listed D.closed fun o' ho' e he hbnd=>by rw [ho] at ho';cases ho';exact hr e he hbnd
      refine ni.op hcf F hb hen0 hnt D ho hun hr (fun p hp=>?_) fun a2 w2 ι2 q2 D2=>?_
      ·have hpl:=(List.getElem?_eq_some_iff.1 hp).1
       obtain⟨x,hx1,rfl⟩:=hget0 p hpl
       rcases hPan.step p _ hx1 with⟨_,h⟩ | ⟨hNp,hDd,_,_⟩
       ·exact h
       ·exfalso
        rcases deadDep p i hp hDd with rfl | h
        ·exact hiN' (Option.some.inj (hp.symm.trans hpN))
        ·have:=hdep _ h
         rw [hNl] at this;cases this
      ·refine ih _ a2 w2 ι2 q2 D2 ?_ ?_
       ·rw [K3 _ _ _ hlt,if_neg (Ne.symm hiN')];exact hNl
       ·have:=rQ D.len (by rw [← D.len];exact hlt) hun
        omega
  refine main _ _ a _ ι 0 ⟨Nat.zero_le _,.inl rfl,fun p hp=>by omega,fun p _ _=>hL0 p,by rw [hS0];exact hst0,(fun d i blk h=>by rw [hL0] at h;cases h),(fun d d' i i' blk blk' _ h=>by rw [hL0] at h;cases h),
   (fun d h=>by rw [hL0] at h;cases h),(fun p hp=>by omega),(fun p i o t _ h=>by rw [hget] at h;cases h),fun t _=>rfl,rfl,rfl,(fun i o h=>by rw [hget] at h;cases h),by simp⟩ (hget _) ?_
  unfold qc
  rw [List.filter_eq_self.2 (fun i _=>by rw [hget];rfl),List.length_range]
end
section
variable {F:Fence}{n:Nat}{P:Program}
theorem DF {o:Oper}{a:Act}{w:World}{K K':Act→World→Prop}{Q Q':Exit→Act→World→Prop}(hK:∀a w,K a w→K' a w)(hQ:∀c a w,Q (.panic c) a w→Q' (.panic c) a w)(hLO:LetsOut Q→LetsOut Q')
  (hh:o.wpIn F n P a w K Q):o.wpIn F n P a w K' Q':=by
 unfold Oper.wpIn at *
 refine⟨hh.1,?_⟩
 have hh:=hh.2
 generalize (o.semAt F.round a.eval).run P w=r at *
 cases r with
 | ok x w'=>
  cases x<;>simp only [Oper.uponIn] at hh ⊢ <;>
   first
    | exact hK _ _ hh
    | exact⟨hh.1,CallsIn.mono hh.2 (fun e w'' he=>by cases e<;>first | exact hK _ _ he | exact hQ _ _ _ he | exact hLO he)⟩
    | exact⟨hh.1,RowsIn.mono hh.2 (fun _ _ he=>hK _ _ he)⟩
    | exact⟨hh.1,RoundIn.mono hh.2 (fun e w'' he=>by cases e<;>first | exact hK _ _ he | exact hQ _ _ _ he | exact hLO he)⟩
 | halt x w'=>cases x<;>simp only [Oper.uponIn] at hh ⊢ <;> first | exact hh | exact hQ _ _ _ hh
theorem least {p:Nat→Prop}(h:∃j,p j):∃j,p j∧∀q,q<j→¬ p q:=by
 obtain⟨j,hj⟩:=h
 induction j using Nat.strongRecOn with
 | _ j ih=>
  by_cases hx:∃q,q<j∧p q
  ·obtain⟨q,h1,h2⟩:=hx;exact ih q h1 h2
  ·exact⟨j,hj,fun q hq hp=>hx ⟨q,hq,hp⟩⟩
theorem uM {ops:Array Oper}{listed:Array Bool}(hcl:eG ops listed)(hs:listed.size=ops.size){i:Nat}{o:Oper}(ho:ops[i]?=some o)
  (hr:∀e∈o.after,Region.binds .any e=true→listed.getD e.on false=true):eG ops (listed.setIfInBounds i true):=by
 have hi:i<listed.size:=by rw [hs];exact (Array.getElem?_eq_some_iff.1 ho).1
 intro j oj hj hoj e he hb
 rw [K3 _ _ _ hi] at hj ⊢
 by_cases hji:j=i
 ·subst hji
  rw [ho] at hoj;cases hoj
  rw [hr e he hb];split<;>rfl
 ·rw [if_neg hji] at hj
  rw [hcl j oj hj hoj e he hb];split<;>rfl
theorem rT {A:Array Bool}{i:Nat}(hi:i<A.size):A.getD i true=A.getD i false:=by
 rw [Array.getD_eq_getD_getElem?,Array.getD_eq_getD_getElem?,Array.getElem?_eq_getElem hi];rfl
theorem Aw {o:Oper}(h:o.guard=none)(y:Nat→Option Bool):Region.wanted o y=true:=by
 unfold Region.wanted;rw [h]
theorem wJ {ops:Array Oper}{k:Nat}(hk:k≤ops.size)(hg:∀(i:Nat)(o:Oper),ops[i]?=some o→o.guard=none)
  (hdown:∀(i:Nat) (o:Oper),ops[i]?=some o→∀e∈o.after,Region.binds .any e=true→e.on<i)
  (hdep:∀i,k≤i→i<ops.size→∀j,j<k→Dep ops i j) {Q Q1:Exit→Act→World→Prop} (hQ:∀c a w,Q1 (.panic c) a w→Q (.panic c) a w) (hLO:LetsOut Q1→LetsOut Q)
  (hall:∀a w,Q1 .normal a w→∀listed:Array Bool,listed.size=ops.size→eG ops listed→(∀j,listed.getD j false=decide (j<k))→wpAnyIn F n P .any ops Q (ops.size-k) listed a w):
  ∀(fuel:Nat) (listed lp:Array Bool) (a:Act) (w:World),listed.size=ops.size→lp.size=k→(∀j,listed.getD j false=lp.getD j false)→eG ops listed→qc k lp=fuel→
   wpAnyIn F n P .any (ops.extract 0 k) Q1 fuel lp a w→wpAnyIn F n P .any ops Q (fuel+(ops.size-k)) listed a w:=by
 intro fuel
 induction fuel with
 | zero=>
  intro listed lp a w hs hp he hcl hl h
  rw [Nat.zero_add]
  refine hall a w h.2 listed hs hcl fun j=>?_
  rw [he j]
  by_cases hj:j<k
  ·have:lp.getD j false=true:=by
    cases hx:lp.getD j false with
    | true=>rfl
    | false=>
     have:j∈(List.range k).filter fun i=>!lp.getD i false:=List.mem_filter.2 ⟨List.mem_range.2 hj,by rw [hx];rfl⟩
     rw [List.length_eq_zero_iff.1 hl] at this;cases this
   rw [this];simp [hj]
  ·rw [Array.getD_eq_getD_getElem?,Array.getElem?_eq_none (by omega)];simp [hj]
 | succ fuel ih=>
  intro listed lp a w hs hp he hcl hl h
  rw [show fuel+1+(ops.size-k)=(fuel+(ops.size-k))+1 from by omega]
  have hex:∃j,j<k∧lp.getD j false=false:=by
   have:((List.range k).filter fun i=>!lp.getD i false)≠[]:=fun e=>by unfold qc at hl;rw [e] at hl;cases hl
   obtain⟨i,hi⟩:=List.exists_mem_of_ne_nil _ this
   obtain⟨h1,h2⟩:=List.mem_filter.1 hi
   exact⟨i,List.mem_range.1 h1,by simpa using h2⟩
  refine⟨fun hnil=>?_,fun i hi=>?_⟩
  ·exfalso
   obtain⟨j,⟨hjk,hjl⟩,hlt⟩:=least hex
   have ho:=Array.getElem?_eq_getElem (xs:=ops) (i:=j) (by omega)
   have:j∈Region.ready .any ops listed:=mem_ready.2 ⟨by rw [rT (by omega),he,hjl],_,ho,fun e hm hb=>by
    have hlt':=hdown j _ ho e hm hb
    cases hx:listed.getD e.on false with
    | true=>rfl
    | false=>exact absurd ⟨by omega,by rw [← he];exact hx⟩ (hlt e.on hlt')⟩
   rw [hnil] at this;cases this
  ·obtain⟨hun,o,ho,hr⟩:=mem_ready.1 hi
   have hio:i<ops.size:=(Array.getElem?_eq_some_iff.1 ho).1
   have hik:i<k:=by
    refine Nat.lt_of_not_le fun hle=>?_
    obtain⟨j,hjk,hjl⟩:=hex
    have:=(hdep i hle hio j hjk).listed hcl (fun o' ho'=>by rw [ho] at ho';cases ho';exact hr)
    rw [he j,hjl] at this;cases this
   have hop:(ops.extract 0 k)[i]?=some o:=by
    rw [Array.getElem?_extract,if_pos (by omega),Nat.zero_add];exact ho
   have hunf:listed.getD i false=false:=by rw [← rT (by omega)];exact hun
   have h1:=h.2 i (mem_ready.2 ⟨by rw [rT (by omega),← he];exact hunf,o,hop,fun e hm hb=>by rw [← he];exact hr e hm hb⟩)
   unfold wpOpIn at h1 ⊢
   rw [hop] at h1
   rw [ho]
   simp only [Aw (hg i o ho),if_true] at h1 ⊢
   refine DF (fun a w hK=>ih _ _ a w (by simpa using hs) (by simpa using hp) (fun j=>?_) (uM hcl hs ho hr) ?_ hK) hQ hLO h1
   ·rw [K3 _ _ _ (by omega),K3 _ _ _ (by omega),he j]
   ·have:=rQ (n:=k) (listed:=lp) hp hik (by rw [← he];exact hunf)
    omega
end
theorem rU {x:Opd}(h:EN x=true)(ls:List j3)(env:T j3):trO x ls env=trO x [] env:=by
 cases x<;>first | rfl | cases h
theorem T.kN {α:Type}:∀(t:T α) (i j:Nat) {x y:α},t.get i=some x→t.get j=some y→i≠j→∀a b:α,(t.put i a).put j b=(t.put j b).put i a
 | .e,i,j,x,y,h,_,_,_,_=>by cases h
 | .nd l v r,i,j,x,y,hi,hj,hne,a,b=>by
  have hp:∀(l r:T α) (v:α) (k:Nat) (c:α),(T.nd l v r).put (k+1) c=(Nat.rec (.nd (l.put (Nat.div k 2) c) v r) (fun _ _=>.nd l v (r.put (Nat.div k 2) c)) (Nat.mod k 2):T α):=fun _ _ _ _ _=>rfl
  have hg:∀(k:Nat),(T.nd l v r).get (k+1)=(Nat.rec (l.get (Nat.div k 2)) (fun _ _=>r.get (Nat.div k 2)) (Nat.mod k 2):Option α):=fun _=>rfl
  have hm:∀k:Nat,Nat.mod k 2=0∨Nat.mod k 2=1:=fun k=>by have:Nat.mod k 2<2:=Nat.mod_lt _ (by omega);omega
  have h0:∀(l r:T α) (v c:α),(T.nd l v r).put 0 c=.nd l c r:=fun _ _ _ _=>rfl
  have hd:∀k q:Nat,Nat.mod k 2=Nat.mod q 2→k≠q→Nat.div k 2≠Nat.div q 2:=fun k q h1 h2=>by
   have e1:Nat.mod k 2=k%2:=rfl
   have e2:Nat.mod q 2=q%2:=rfl
   have e3:Nat.div k 2=k / 2:=rfl
   have e4:Nat.div q 2=q / 2:=rfl
   omega
  cases i with
  | zero=>
   cases j with
   | zero=>exact absurd rfl hne
   | succ q=>
    rw [h0,hp,hp]
    rcases hm q with e | e<;>rw [e]<;>rfl
  | succ k=>
   cases j with
   | zero=>
    rw [h0,hp,hp]
    rcases hm k with e | e<;>rw [e]<;>rfl
   | succ q=>
    rw [hg] at hi hj
    rw [hp,hp]
    have hne':k≠q:=fun e=>hne (by rw [e])
    rcases hm k with e | e<;>rcases hm q with e' | e'<;>rw [e] at hi ⊢ <;> rw [e'] at hj ⊢
    ·show (T.nd (l.put (Nat.div k 2) a) v r).put (q+1) b=(T.nd (l.put (Nat.div q 2) b) v r).put (k+1) a
     rw [hp,hp,e,e']
     show T.nd _ _ _=T.nd _ _ _
     rw [T.kN l _ _ hi hj (hd k q (by rw [e,e']) hne') a b]
    ·show (T.nd (l.put (Nat.div k 2) a) v r).put (q+1) b=(T.nd l v (r.put (Nat.div q 2) b)).put (k+1) a
     rw [hp,hp,e,e']
     rfl
    ·show (T.nd l v (r.put (Nat.div k 2) a)).put (q+1) b=(T.nd (l.put (Nat.div q 2) b) v r).put (k+1) a
     rw [hp,hp,e,e']
     rfl
    ·show (T.nd l v (r.put (Nat.div k 2) a)).put (q+1) b=(T.nd l v (r.put (Nat.div q 2) b)).put (k+1) a
     rw [hp,hp,e,e']
     show T.nd _ _ _=T.nd _ _ _
     rw [T.kN r _ _ hi hj (hd k q (by rw [e,e']) hne') a b]
theorem rV {sz:Nat}{x y:OF}{cf:y8}{ls:List j3}{env:T j3}{m:Mem}{outs:List VM}(h:C9 sz x y cf ls env m=some outs):
  ∃id off rs n rows rows',x ls env=.ptr id off∧Nat.beq (len' (y ls env).cells) sz=true∧Nat.blt id m.lim=false∧G7 (y ls env).cells=true∧m.get id=some (.cells rs n rows)∧
   L6 rs n rows off (y ls env).cells=some rows'∧outs=[⟨.undef,m.set id (.cells rs n rows')⟩]:=by
 obtain⟨id,off,h1,h⟩:=V6 h
 obtain⟨h2,h⟩:=p9 h
 obtain⟨h3,h⟩:=dR h
 obtain⟨h4,h⟩:=p9 h
 obtain⟨rs,n,rows,h5,h⟩:=Q6 h
 obtain⟨rows',h6,h⟩:=r9 h
 cases h
 exact⟨id,off,rs,n,rows,rows',h1,h2,h3,h4,h5,h6,rfl⟩
theorem BZ {sz:Nat}{x y:OF}{cf:y8}{ls:List j3}{env:T j3}{m:Mem}{id off rs n:Nat}{rows rows':T (List j3)}(h1:x ls env=.ptr id off)(h2:Nat.beq (len' (y ls env).cells) sz=true)
  (h3:Nat.blt id m.lim=false) (h4:G7 (y ls env).cells=true) (h5:m.get id=some (.cells rs n rows)) (h6:L6 rs n rows off (y ls env).cells=some rows'):
  C9 sz x y cf ls env m=some [⟨.undef,m.set id (.cells rs n rows')⟩]:=by
 show iP (x ls env) _=_
 rw [h1]
 show bi (Nat.beq _ _) _ _=_
 rw [h2]
 show bi (Nat.blt id m.lim) _ _=_
 rw [h3]
 show bi (G7 _) _ _=_
 rw [h4]
 show K5 _ _=_
 rw [h5]
 show ob _ _=_
 rw [h6]
 rfl
theorem DI {sz sz':Nat}{x y x' y':OF}{cf:y8}{ls ls':List j3}{env:T j3}{m:Mem}{id off id' off':Nat}(hx:x ls env=.ptr id off)(hx':x' ls' env=.ptr id' off')(hne:id'≠id)
  {l1 l2:List VM} (h1:C9 sz x y cf ls env m=some l1) {m1:Mem} (e1:l1=[⟨.undef,m1⟩]) (h2:C9 sz' x' y' cf ls' env m1=some l2):
  ∃mc m2,l2=[⟨.undef,m2⟩]∧C9 sz' x' y' cf ls' env m=some [⟨.undef,mc⟩]∧C9 sz x y cf ls env mc=some [⟨.undef,m2⟩]:=by
 obtain⟨i1,o1,rs,n,rows,rows',a1,a2,a3,a4,a5,a6,rfl⟩:=rV h1
 cases e1
 rw [hx] at a1;cases a1
 obtain⟨i2,o2,rs2,n2,rows2,rows2',b1,b2,b3,b4,b5,b6,rfl⟩:=rV h2
 rw [hx'] at b1;cases b1
 rw [Mem.nU a5,if_neg hne] at b5
 refine⟨_,_,rfl,BZ hx' b2 b3 b4 b5 b6,?_⟩
 have:=BZ (m:=m.set id' (.cells rs2 n2 rows2')) (cf:=cf) hx a2 a3 a4 (by rw [Mem.nU b5,if_neg (Ne.symm hne)];exact a5) a6
 rw [this]
 have e:(m.set id' (.cells rs2 n2 rows2')).set id (.cells rs n rows')=(m.set id (.cells rs n rows')).set id' (.cells rs2 n2 rows2'):=by
  unfold Mem.set
  rw [T.kN m.t id' id b5 a5 hne]
 rw [e]
section
variable {P:Program}{G:Mem}{ι:Inj}{m:Mem}{w:World}{slots:List Nat}{done:List (Option Nat)}{ls:List j3}{env:T j3}{a:Act}{ops:Array Oper}{Q:Exit→Act→World→Prop}
theorem jm {r:Option Nat}{cf:y8}(hcf:qj P G cf)(s:St P ι (m.nm ι) slots done ls env a.tmps)(hm:RM P G ι m w.heap){i:Nat}{o:Oper}(ho:ops[i]?=some o)(hg:o.guard=none)
  {v:j3} {m1:Mem} (hv:evA cf (ng P slots done o.op) ls env m=some [⟨v,m1⟩]) (hpan:∀x,v≠.pan x) {K:Act→World→Prop}
  (hK:∀ι' w',Step P G ι m w ι' m1 w'→v.lt (m1.nm ι')→K (a.put o.dst (l6 ι' v)) w'):wpOpIn (FR r) 0 P ops Q i K a w:=by
 unfold wpOpIn
 rw [ho]
 refine FH (g:=none) hcf s hm (by rw [hg];rfl) (outs:=[⟨v,m1⟩]) hv ?_ ?_
 ·intro x hx ι' w' h1 h2
  obtain rfl:=List.mem_singleton.1 hx
  exact hK ι' w' h1 h2
 ·intro x hx y ι' w' h
  obtain rfl:=List.mem_singleton.1 hx
  exact absurd h (hpan y)
theorem St.stepped {ι':Inj}{m':Mem}{w':World}{tmps:Array Value}(s:St P ι (m.nm ι) slots done ls env tmps)(h:Step P G ι m w ι' m' w'):St P ι' (m'.nm ι') slots done ls env tmps:=
 St.mono (n:=m.nm ι) s h.ext (Mem.O6 h.has h.ext)
theorem jQ (a:Act)(v:Value):a.put none v=a:=rfl
theorem DJ {r:Option Nat}{cf:y8}(hcf:qj P G cf){nt:Nat}(h3:3≤ops.size){po:POp}{s s':Nat}{v a' v':Opd}{d1:Option Nat}
  (hx:lD P slots [] ops (ops.size-3)=some (⟨.p po,none,none⟩,d1)) (hy:lD P slots [(ops[ops.size-3]?).bind (·.dst)] ops (ops.size-2)=some (⟨.e (.store s (.loc 0) v),none,none⟩,none))
  (hz:lD P slots [] ops (ops.size-1)=some (⟨.e (.store s' a' v'),none,none⟩,none)) (ha':EN a'=true) (hv':EN v'=true)
  (hin:∀(i:Nat) (o:Oper) (t:Tmp),ops[i]?=some o→o.dst=some t→t<nt) (hg:∀(i:Nat) (o:Oper),ops[i]?=some o→o.guard=none)
  (hdown:∀(i:Nat) (o:Oper),ops[i]?=some o→∀e∈o.after,Region.binds .any e=true→e.on<i) (hyx:Dep ops (ops.size-2) (ops.size-3))
  {es:List EM} (hm:RM P G ι m w.heap) (hen:M8 ι (m.nm ι) slots env a.tmps) (hnt:nt≤a.tmps.size)
  (hv:V5 [⟨.p po,none,none⟩,⟨.e (.store s (.loc 0) v),none,none⟩,⟨.e (.storeAp s' a' v' (.loc 1)),none,none⟩] cf [] env m=some es)
  (hQ:∀e∈es,e.px=none→e.mks=[]→∀ι' w' a',Step P G ι m w ι' e.m w'→M8 ι' (e.m.nm ι') slots e.env a'.tmps→a'.defers=a.defers→a'.tmps.size=a.tmps.size→Q .normal a' w')
  {listed:Array Bool} (hs:listed.size=ops.size) (hcl:eG ops listed) (hl:∀j,listed.getD j false=decide (j<ops.size-3)):wpAnyIn (FR r) 0 P .any ops Q 3 listed a w:=by
 obtain⟨l1,h1,k1⟩:=ql (o:=.p po) (d:=none) (g:=none) (k:=V5 [⟨.e (.store s (.loc 0) v),none,none⟩,⟨.e (.storeAp s' a' v' (.loc 1)),none,none⟩]) hv
 obtain⟨x,hp,h1⟩:=r9 h1
 cases h1
 obtain⟨os1,hk1,hs1⟩:=k1 _ (List.mem_singleton.2 rfl)
 have hk1:V5 [⟨.e (.store s (.loc 0) v),none,none⟩,⟨.e (.storeAp s' a' v' (.loc 1)),none,none⟩] cf [x] env m=some os1:=hk1
 obtain⟨l2,h2,k2⟩:=ql (o:=.e (.store s (.loc 0) v)) (d:=none) (g:=none) (k:=V5 [⟨.e (.storeAp s' a' v' (.loc 1)),none,none⟩]) hk1
 have h2:C9 s (trO (.loc 0)) (trO v) cf [x] env m=some l2:=h2
 obtain⟨i1,o1,rs,n,rows,rows',a1,_,_,_,a5,_,e2⟩:=rV h2
 obtain⟨os2,hk2,hs2⟩:=k2 _ (by rw [e2];exact List.mem_singleton.2 rfl)
 generalize hm1:m.set i1 (.cells rs n rows')=m1 at e2 hk2
 have hk2:V5 [⟨.e (.storeAp s' a' v' (.loc 1)),none,none⟩] cf [.undef,x] env m1=some os2:=hk2
 obtain⟨l3,h3',k3⟩:=ql (o:=.e (.storeAp s' a' v' (.loc 1))) (d:=none) (g:=none) (k:=j6) hk2
 have h3':vE s' (trO a') (trO v') (trO (.loc 1)) cf [.undef,x] env m1=some l3:=h3'
 obtain⟨i2,o2,b1,h3a⟩:=V6 h3'
 obtain⟨i1',o1',b2,h3b⟩:=V6 h3a
 obtain⟨b3,h3c⟩:=dR h3b
 have ex:x=.ptr i1 o1:=a1
 have ex':x=.ptr i1' o1':=b2
 rw [ex] at ex';cases ex'
 have hne:i2≠i1:=fun e=>by rw [e] at b3;simp [Nat.beq_refl] at b3
 have b1':trO a' [] env=.ptr i2 o2:=by rw [← rU ha' [.undef,x] env];exact b1
 have h3'':C9 s' (trO a') (trO v') cf [] env m1=some l3:=by
  have e4:C9 s' (trO a') (trO v') cf [.undef,x] env m1=some l3:=h3c
  rw [← e4]
  simp only [C9,rU ha' [.undef,x] env,rU hv' [.undef,x] env]
 obtain⟨mc,m2,e3,hc,hb⟩:=DI (x:=trO (.loc 0)) (y:=trO v) (ls:=[x]) (ls':=[]) a1 b1' hne h2 e2 h3''
 obtain⟨os3,hk3,hs3⟩:=k3 ⟨.undef,m2⟩ (by rw [e3];exact List.mem_singleton.2 rfl)
 have hk3:some [(⟨env,m2,none,[]⟩:EM)]=some os3:=hk3
 cases hk3
 have hmem:(⟨env,m2,none,[]⟩:EM)∈es:=hs1 _ (hs2 _ (hs3 _ (List.mem_singleton.2 rfl)))
 obtain⟨oA,hA,rfl,hA2,hA3,_⟩:=eD hx
 obtain⟨oB,hB,hBd,hB2,_,_⟩:=eD hy
 obtain⟨oC,hC,hCd,hC2,_,_⟩:=eD hz
 have hA2:.p po=ng P slots [] oA.op:=hA2
 have hB2:.e (.store s (.loc 0) v)=ng P slots [oA.dst] oB.op:=by rw [hA] at hB2;exact hB2
 have hC2:.e (.store s' a' v')=ng P slots [] oC.op:=hC2
 have hA3:none=Iy slots oA.dst:=hA3
 have npan:∀y,x≠.pan y:=fun y e=>by rw [ex] at e;cases e
 have rdy:∀(L:Array Bool) (i:Nat) (o:Oper),L.size=ops.size→ops[i]?=some o→L.getD i false=false→(∀j,j<i→L.getD j false=true)→i∈Region.ready .any ops L:=fun L i o hL ho hun hall=>
  mem_ready.2 ⟨by rw [rT (by rw [hL];exact (Array.getElem?_eq_some_iff.1 ho).1)];exact hun,o,ho,fun e he hb=>hall _ (hdown i o ho e he hb)⟩
 have out:∀(L:Array Bool) (i:Nat),L.size=ops.size→i∈Region.ready .any ops L→i<ops.size∧L.getD i false=false∧∀o,ops[i]?=some o→∀e∈o.after,Region.binds .any e=true→L.getD e.on false=true:=fun L i hL hi=>by
  obtain⟨h1,o,ho,h2⟩:=mem_ready.1 hi
  have hlt:=(Array.getElem?_eq_some_iff.1 ho).1
  exact⟨hlt,by rw [← rT (by omega)];exact h1,fun o' ho'=>by rw [ho] at ho';cases ho';exact h2⟩
 have nB:∀L:Array Bool,L.size=ops.size→eG ops L→L.getD (ops.size-3) false=false→ops.size-2∉Region.ready .any ops L:=fun L hL hcL hun hi=>by
  have:=hyx.listed hcL (out L _ hL hi).2.2
  rw [hun] at this;cases this
 have rC:∀(L:Array Bool),L.size=ops.size→eG ops L→∀i,i∈Region.ready .any ops L→eG ops (L.setIfInBounds i true):=fun L hL hcL i hi=>by
  obtain⟨_,o,ho,h2⟩:=mem_ready.1 hi
  exact uM hcL hL ho h2
 have lA:∀j,(listed.setIfInBounds (ops.size-3) true).getD j false=decide (j<ops.size-2):=fun j=>by
  rw [K3 _ _ _ (by omega),hl]
  by_cases hj:j=ops.size-3
  ·rw [if_pos hj,decide_eq_true (by omega)]
  ·rw [if_neg hj];exact decide_eq_decide.2 (by omega)
 have lC:∀j,(listed.setIfInBounds (ops.size-1) true).getD j false=decide (j<ops.size-3∨j=ops.size-1):=fun j=>by
  rw [K3 _ _ _ (by omega),hl]
  by_cases hj:j=ops.size-1
  ·rw [if_pos hj,decide_eq_true (.inr hj)]
  ·rw [if_neg hj];exact decide_eq_decide.2 (by omega)
 have lAB:∀j,((listed.setIfInBounds (ops.size-3) true).setIfInBounds (ops.size-2) true).getD j false=decide (j<ops.size-1):=fun j=>by
  rw [K3 _ _ _ (by simp;omega),lA]
  by_cases hj:j=ops.size-2
  ·rw [if_pos hj,decide_eq_true (by omega)]
  ·rw [if_neg hj];exact decide_eq_decide.2 (by omega)
 have lAC:∀j,((listed.setIfInBounds (ops.size-3) true).setIfInBounds (ops.size-1) true).getD j false=decide (j<ops.size-2∨j=ops.size-1):=fun j=>by
  rw [K3 _ _ _ (by simp;omega),lA]
  by_cases hj:j=ops.size-1
  ·rw [if_pos hj,decide_eq_true (.inr hj)]
  ·rw [if_neg hj];exact decide_eq_decide.2 (by omega)
 have lCA:∀j,((listed.setIfInBounds (ops.size-1) true).setIfInBounds (ops.size-3) true).getD j false=decide (j<ops.size-2∨j=ops.size-1):=fun j=>by
  rw [K3 _ _ _ (by simp;omega),lC]
  by_cases hj:j=ops.size-3
  ·rw [if_pos hj,decide_eq_true (.inl (by omega))]
  ·rw [if_neg hj];exact decide_eq_decide.2 (by omega)
 have fin:∀(L:Array Bool) (b:Act) (w':World) (ι':Inj),(∀j,j<ops.size→L.getD j false=true)→L.size=ops.size→Step P G ι m w ι' m2 w'→M8 ι' (m2.nm ι') slots env b.tmps→b.defers=a.defers→b.tmps.size=a.tmps.size→
   wpAnyIn (FR r) 0 P .any ops Q 0 L b w':=fun L b w' ι' hall hL hst he hd hsz=>by
  refine⟨List.eq_nil_iff_forall_not_mem.2 fun i hi=>?_,hQ _ hmem rfl rfl ι' w' b hst he hd hsz⟩
  obtain⟨h1,h2,_⟩:=out L i hL hi
  rw [hall i h1] at h2;cases h2
 have hBlt:ops.size-2<ops.size:=by omega
 have hevA:∀M:Mem,evA cf (ng P slots [] oA.op) [] env M=some [⟨x,M⟩]:=fun M=>by
  rw [← hA2];show ob (trP po [] env) _=_;rw [hp];rfl
 have putA:∀(ι':Inj) (M:Mem) (b:Act),nt≤b.tmps.size→M8 ι' (M.nm ι') slots env b.tmps→∀w':World,RM P G ι' M w'.heap→x.lt (M.nm ι')→St P ι' (M.nm ι') slots [oA.dst] [x] env (b.put oA.dst (l6 ι' x)).tmps:=fun ι' M b hb he w' hr hlt=>by
  have s0:St P ι' (M.nm ι') slots [] [] env b.tmps:=St.start hr he
  have:=s0.put oA.dst (fun t ht=>Nat.lt_of_lt_of_le (hin _ _ t hA ht) hb) hlt
  rw [← hA3] at this
  rw [(bB b oA.dst (l6 ι' x)).1]
  exact this
 refine⟨fun hnil=>?_,fun i hi=>?_⟩
 ·have:=rdy listed (ops.size-3) oA hs hA (by rw [hl];simp) (fun j hj=>by rw [hl];simp;omega)
  rw [hnil] at this;cases this
 ·have hi':=out listed i hs hi
  have hi2:¬ i<ops.size-3:=fun h=>by have:=hi'.2.1;rw [hl,decide_eq_true h] at this;cases this
  have hcases:i=ops.size-3∨i=ops.size-2∨i=ops.size-1:=by have:=hi'.1;omega
  rcases hcases with rfl | rfl | rfl
  ·
   have hclA:=rC listed hs hcl _ hi
   refine jm hcf (St.start hm hen) hm hA (hg _ _ hA) (hevA m) npan fun ι1 w1 st1 hlt=>?_
   have sA:=putA ι1 m a hnt (st1.env hen) w1 st1.rm hlt
   refine⟨fun hnil=>?_,fun i hi=>?_⟩
   ·have:=rdy (listed.setIfInBounds (ops.size-3) true) (ops.size-2) oB (by simpa using hs) hB (by rw [lA];simp) (fun j hj=>by rw [lA];simp;omega)
    rw [hnil] at this;cases this
   ·have hi':=out _ i (by simpa using hs) hi
    have hi2:¬ i<ops.size-2:=fun h=>by have:=hi'.2.1;rw [lA,decide_eq_true h] at this;cases this
    have hcases:i=ops.size-2∨i=ops.size-1:=by have:=hi'.1;omega
    rcases hcases with rfl | rfl
    ·refine jm hcf sA st1.rm hB (hg _ _ hB) (v:=.undef) (m1:=m1) (by rw [← hB2];exact h2.trans (by rw [e2])) (by simp) fun ι2 w2 st2 _=>?_
     rw [← hBd,jQ]
     have sB:=sA.stepped st2
     refine⟨fun hnil=>?_,fun i hi=>?_⟩
     ·have:=rdy ((listed.setIfInBounds (ops.size-3) true).setIfInBounds (ops.size-2) true) (ops.size-1) oC (by simpa using hs) hC (by rw [lAB];simp) (fun j hj=>by rw [lAB];simp;omega)
      rw [hnil] at this;cases this
     ·have hi':=out _ i (by simpa using hs) hi
      have hi2:¬ i<ops.size-1:=fun h=>by have:=hi'.2.1;rw [lAB,decide_eq_true h] at this;cases this
      obtain rfl:i=ops.size-1:=by have:=hi'.1;omega
      refine jm hcf (St.start st2.rm sB.env) st2.rm hC (hg _ _ hC) (v:=.undef) (m1:=m2) (by rw [← hC2];exact h3''.trans (by rw [e3])) (by simp) fun ι3 w3 st3 _=>?_
      rw [← hCd,jQ]
      exact fin _ _ w3 ι3 (fun j hj=>by rw [K3 _ _ _ (by simp;omega),lAB];by_cases h:j=ops.size-1<;>simp [h];omega) (by simpa using hs) (st1.trans (st2.trans st3)) (st3.env sB.env) (bB _ _ _).2 (N9 _ _ _)
    ·refine jm hcf (St.start st1.rm sA.env) st1.rm hC (hg _ _ hC) (v:=.undef) (m1:=mc) (by rw [← hC2];exact hc) (by simp) fun ι2 w2 st2 _=>?_
     rw [← hCd,jQ]
     have sC:=sA.stepped st2
     refine⟨fun hnil=>?_,fun i hi=>?_⟩
     ·have:=rdy ((listed.setIfInBounds (ops.size-3) true).setIfInBounds (ops.size-1) true) (ops.size-2) oB (by simpa using hs) hB (by rw [lAC];simp;omega) (fun j hj=>by rw [lAC];simp;omega)
      rw [hnil] at this;cases this
     ·have hi':=out _ i (by simpa using hs) hi
      have hi2:¬ (i<ops.size-2∨i=ops.size-1):=fun h=>by have:=hi'.2.1;rw [lAC,decide_eq_true h] at this;cases this
      obtain rfl:i=ops.size-2:=by have:=hi'.1;omega
      refine jm hcf sC st2.rm hB (hg _ _ hB) (v:=.undef) (m1:=m2) (by rw [← hB2];exact hb) (by simp) fun ι3 w3 st3 _=>?_
      rw [← hBd,jQ]
      exact fin _ _ w3 ι3 (fun j hj=>by rw [K3 _ _ _ (by simp;omega),lAC];by_cases h:j=ops.size-2<;>simp [h];omega) (by simpa using hs) (st1.trans (st2.trans st3)) (st3.env sC.env) (bB _ _ _).2 (N9 _ _ _)
  ·exact absurd hi (nB listed hs hcl (by rw [hl];simp))
  ·
   refine jm hcf (St.start hm hen) hm hC (hg _ _ hC) (v:=.undef) (m1:=mc) (by rw [← hC2];exact hc) (by simp) fun ι1 w1 st1 _=>?_
   rw [← hCd,jQ]
   have hclC:=rC listed hs hcl _ hi
   have hen1:=st1.env hen
   refine⟨fun hnil=>?_,fun i hi=>?_⟩
   ·have:=rdy (listed.setIfInBounds (ops.size-1) true) (ops.size-3) oA (by simpa using hs) hA (by rw [lC];simp;omega) (fun j hj=>by rw [lC];simp;omega)
    rw [hnil] at this;cases this
   ·have hi':=out _ i (by simpa using hs) hi
    have hi2:¬ (i<ops.size-3∨i=ops.size-1):=fun h=>by have:=hi'.2.1;rw [lC,decide_eq_true h] at this;cases this
    have hcases:i=ops.size-3∨i=ops.size-2:=by have:=hi'.1;omega
    rcases hcases with rfl | rfl
    ·refine jm hcf (St.start st1.rm hen1) st1.rm hA (hg _ _ hA) (hevA mc) npan fun ι2 w2 st2 hlt=>?_
     have sA:=putA ι2 mc a hnt (st2.env hen1) w2 st2.rm hlt
     refine⟨fun hnil=>?_,fun i hi=>?_⟩
     ·have:=rdy ((listed.setIfInBounds (ops.size-1) true).setIfInBounds (ops.size-3) true) (ops.size-2) oB (by simpa using hs) hB (by rw [lCA];simp;omega) (fun j hj=>by rw [lCA];simp;omega)
      rw [hnil] at this;cases this
     ·have hi':=out _ i (by simpa using hs) hi
      have hi2:¬ (i<ops.size-2∨i=ops.size-1):=fun h=>by have:=hi'.2.1;rw [lCA,decide_eq_true h] at this;cases this
      obtain rfl:i=ops.size-2:=by have:=hi'.1;omega
      refine jm hcf sA st2.rm hB (hg _ _ hB) (v:=.undef) (m1:=m2) (by rw [← hB2];exact hb) (by simp) fun ι3 w3 st3 _=>?_
      rw [← hBd,jQ]
      exact fin _ _ w3 ι3 (fun j hj=>by rw [K3 _ _ _ (by simp;omega),lCA];by_cases h:j=ops.size-2<;>simp [h];omega) (by simpa using hs) (st1.trans (st2.trans st3)) (st3.env sA.env) (bB _ _ _).2 (N9 _ _ _)
    ·exact absurd hi (nB _ (by simpa using hs) hclC (by rw [lC];simp;omega))
theorem Ay {ops:Array Oper}{k i:Nat}{o:Oper}(h:(ops.extract 0 k)[i]?=some o):ops[i]?=some o:=by
 rw [Array.getElem?_extract] at h
 split at h
 ·rw [Nat.zero_add] at h;exact h
 ·cases h
theorem yO {ops:Array Oper}(h:zS (masks ops.toList) ops=true):3≤ops.size∧(∀(i:Nat) (o:Oper),ops[i]?=some o→o.guard=none)∧
  (∀(i:Nat) (o:Oper),ops[i]?=some o→∀e∈o.after,Region.binds .any e=true→e.on<i)∧(∀i,ops.size-3≤i→i<ops.size→∀j,j<ops.size-3→Dep ops i j)∧Dep ops (ops.size-2) (ops.size-3):=by
 simp only [zS,Bool.and_eq_true,List.all_eq_true,List.mem_range] at h
 obtain⟨⟨⟨h1,h2⟩,h3⟩,h4⟩:=h
 have h1:3≤ops.size:=Nat.le_of_ble_eq_true h1
 have key:∀(i:Nat) (o:Oper),ops[i]?=some o→(∀e∈o.after,Region.binds .any e=true→e.on<i)∧o.guard=none:=fun i o ho=>by
  have:=h2 i (Array.getElem?_eq_some_iff.1 ho).1
  rw [ho] at this
  simp only [Bool.and_eq_true,List.all_eq_true] at this
  refine⟨fun e he hb=>?_,Option.isNone_iff_eq_none.1 this.2⟩
  have:=this.1 e (by simpa using he)
  rw [hb] at this
  simpa using this
 refine⟨h1,fun i o ho=>(key i o ho).2,fun i o ho=>(key i o ho).1,fun i hi hi2 j hj=>?_,U7 _ _ _ h4⟩
 obtain⟨⟨g1,g2⟩,g3⟩:=h3 j hj
 have:i=ops.size-3∨i=ops.size-2∨i=ops.size-1:=by omega
 rcases this with rfl | rfl | rfl
 ·exact U7 _ _ _ g1
 ·exact U7 _ _ _ g2
 ·exact U7 _ _ _ g3
def ad1 (Q:Exit→Act→World→Prop)(N:Act→World→Prop):Exit→Act→World→Prop
 | .normal,b,w=>N b w
 | x,b,w=>Q x b w
theorem gD {cf:y8}(hmix:P.follows .mixedOrders=true)(hcf:qj P G cf)(slots:List Nat)(nt:Nat)(r:Option Nat):eF P G slots nt cf r:=by
 intro id ops ac fuel hc hti Q ir env m k ι w a outs hm hen hnt hmk hir hv hQ
 simp only [I8] at hc
 split at hc
 ·unfold xH at hc
  split at hc
  ·rename_i n l hd
   split at hc
   ·rename_i hok
    obtain⟨h3,hg,hdown,hdep,hyx⟩:=yO hok
    unfold vI at hc
    split at hc
    ·rename_i po d1 s v s' a' v' hx hy hz
     split at hc
     ·rename_i hnl
      simp only [Bool.and_eq_true] at hnl
      cases hc
      have hv:bnd (bnd (oG l cf m.next [] env (reserve n m) [reserve n m]) (bQ k)) (fun o=>X9.rec (bnd (V5 [⟨.p po,none,none⟩,⟨.e (.store s (.loc 0) v),none,none⟩,⟨.e (.storeAp s' a' v' (.loc 1)),none,none⟩] cf [] o.env o.m) (bQ o.marks))
       (fun _=>some [o]) (some [o]) o.x)=some outs:=hv
      obtain⟨os,hos,hk⟩:=L8 hv
      obtain⟨es,hes,hk1⟩:=L8 hos
      refine wpIn_region_any hmix ?_
      have hsz:(ops.extract 0 (ops.size-3)).size=ops.size-3:=by rw [Array.size_extract];omega
      have h1:=rR (r:=r) hcf slots nt _ n l hd (fun i o t ho ht=>aQ hti i o t (Ay ho) ht)
       (ad1 Q fun b w'=>∃e1∈es,∃ι',e1.px=none∧e1.mks=[]∧Step P G ι m w ι' e1.m w'∧M8 ι' (e1.m.nm ι') slots e1.env b.tmps∧b.defers=a.defers∧b.tmps.size=a.tmps.size) env m ι w a es hm hen hnt hes
       (fun e1 he hpx hmk0 ι' w' b hst hen' hdef hbs=>⟨e1,he,ι',hpx,hmk0,hst,hen',hdef,hbs⟩) ?_
      ·rw [hsz] at h1
       have:=wJ (ops:=ops) (k:=ops.size-3) (Q:=Q) (Q1:=ad1 Q _) (by omega) hg hdown hdep (fun c a w h=>h) (fun ⟨a,w,h⟩=>⟨a,w,h⟩) ?_ (ops.size-3) (Array.replicate ops.size false) (Array.replicate (ops.size-3) false) a _ (by simp) (by simp)
        (fun j=>by rw [Array.getD_eq_getD_getElem?,Array.getD_eq_getD_getElem?,Array.getElem?_replicate,Array.getElem?_replicate];split<;>split<;>rfl)
        (fun i o h=>by rw [Array.getD_eq_getD_getElem?,Array.getElem?_replicate] at h;split at h<;>cases h)
        (by unfold qc;rw [List.filter_eq_self.2 (fun i _=>by rw [Array.getD_eq_getD_getElem?,Array.getElem?_replicate];split<;>rfl),List.length_range]) h1
       ·rw [show ops.size-3+(ops.size-(ops.size-3))=ops.size from by omega] at this
        exact this
       ·rintro b w' ⟨e1,he,ι',hpx,hmk0,hst,hen',hdef,hbs⟩ listed hls hcl hl
        rw [show ops.size-(ops.size-3)=3 from by omega]
        obtain⟨os1,hos1,hsub1⟩:=hk1 e1 he
        obtain⟨env₁,m₁,px₁,mk₁⟩:=e1
        obtain rfl:px₁=none:=hpx
        obtain rfl:mk₁=[]:=hmk0
        have hos1:qC .normal env₁ m₁ k=some os1:=hos1
        cases hos1
        obtain⟨os2,hos2,hsub2⟩:=hk _ (hsub1 _ (List.mem_singleton.2 rfl))
        have hos2:bnd (V5 [⟨.p po,none,none⟩,⟨.e (.store s (.loc 0) v),none,none⟩,⟨.e (.storeAp s' a' v' (.loc 1)),none,none⟩] cf [] env₁ m₁) (bQ k)=some os2:=hos2
        obtain⟨es2,hes2,hk2⟩:=L8 hos2
        refine DJ hcf h3 hx hy hz hnl.1 hnl.2 (aQ hti) hg hdown hyx hst.rm hen' (by rw [hbs];exact hnt) hes2 ?_ hls hcl hl
        intro e2 he2 hpx2 hmk2 ι'' w'' a'' hst2 hen2 hdef2 hbs2
        obtain⟨os3,hos3,hsub3⟩:=hk2 e2 he2
        obtain⟨env₂,m₂,px₂,mk₂⟩:=e2
        obtain rfl:px₂=none:=hpx2
        obtain rfl:mk₂=[]:=hmk2
        have hos3:qC .normal env₂ m₂ k=some os3:=hos3
        cases hos3
        exact hQ _ (hsub2 _ (hsub3 _ (List.mem_singleton.2 rfl))) ι'' w'' a'' (hst.trans hst2) hen2 (hbs2.trans hbs) (by rw [hdef2,hdef];exact hmk.step (hst.trans hst2)) (O0 rfl)
      ·intro e1 he y hpx hmk0 ι' w' b hst hylt hen' hdef hbs
       obtain⟨os1,hos1,hsub1⟩:=hk1 e1 he
       obtain⟨env₁,m₁,px₁,mk₁⟩:=e1
       obtain rfl:px₁=some y:=hpx
       obtain rfl:mk₁=[]:=hmk0
       have hos1:some [(⟨.ret,env₁,m₁,k,some y⟩:Out)]=some os1:=hos1
       cases hos1
       obtain⟨os2,hos2,hsub2⟩:=hk _ (hsub1 _ (List.mem_singleton.2 rfl))
       have hos2:some [(⟨.ret,env₁,m₁,k,some y⟩:Out)]=some os2:=hos2
       cases hos2
       exact hQ _ (hsub2 _ (List.mem_singleton.2 rfl)) ι' w' b hst hen' hbs (by rw [hdef];exact hmk.step hst) (fun z hz=>by cases hz;exact⟨rfl,hylt⟩)
     ·cases hc
    ·cases hc
   ·cases hc
  ·cases hc
 ·have hform:∃n l,ac=.dreg n l:=by
   unfold vH at hc
   split at hc
   ·cases hc
   ·split at hc
    ·cases hc;exact⟨_,_,rfl⟩
    ·cases hc
  obtain⟨n,l,rfl⟩:=hform
  have hv:bnd (oG l cf m.next [] env (reserve n m) [reserve n m]) (bQ k)=some outs:=hv
  obtain⟨es,hes,hk⟩:=L8 hv
  refine wpIn_region_any hmix (rR hcf slots nt r ops n l hc (aQ hti) Q env m ι w a es hm hen hnt hes ?_ ?_)
  ·intro e he hpx hmk0 ι' w' a' hst hen' hdef hsz
   obtain⟨os,hos,hsub⟩:=hk e he
   obtain⟨env₁,m₁,px₁,mk₁⟩:=e
   obtain rfl:px₁=none:=hpx
   obtain rfl:mk₁=[]:=hmk0
   have hos:qC .normal env₁ m₁ k=some os:=hos
   cases hos
   exact hQ _ (hsub _ (List.mem_singleton.2 rfl)) ι' w' a' hst hen' hsz (by rw [hdef];exact hmk.step hst) (O0 rfl)
  ·intro e he y hpx hmk0 ι' w' a' hst hylt hen' hdef hsz
   obtain⟨os,hos,hsub⟩:=hk e he
   obtain⟨env₁,m₁,px₁,mk₁⟩:=e
   obtain rfl:px₁=some y:=hpx
   obtain rfl:mk₁=[]:=hmk0
   have hos:some [(⟨.ret,env₁,m₁,k,some y⟩:Out)]=some os:=hos
   cases hos
   exact hQ _ (hsub _ (List.mem_singleton.2 rfl)) ι' w' a' hst hen' hsz (by rw [hdef];exact hmk.step hst) (fun z hz=>by cases hz;exact⟨rfl,hylt⟩)
end
section
variable {P:Program}{G:Mem}{ι:Inj}{n:Nm}{m:Mem}{w:World}{slots:List Nat}
def nV (ι:Inj):Option j3→FrameMode→Prop
 | some x,u=>u=.panicking [{v:=l6 ι x,recovered:=false}]
 | none,u=>u=.returning∨∃v,u=.panicking [{v,recovered:=true}]
theorem nV.settle {md:Option j3}{u:FrameMode}(h:nV ι md u):Go.settle u=Ar ι md:=by
 cases md with
 | some x=>obtain rfl:u=_:=h;rfl
 | none=>rcases h with rfl | ⟨v,rfl⟩<;>rfl
theorem nV.of {md:Option j3}:nV ι md (Ar ι md):=by
 cases md with
 | some x=>rfl
 | none=>exact .inl rfl
theorem nV.step {ι':Inj}{m':Mem}{w':World}{md:Option j3}{u:FrameMode}(h:nV ι md u)(hmd:Dv ι m md)(hst:Step P G ι m w ι' m' w'):nV ι' md u:=by
 cases md with
 | some x=>
  have h:u=_:=h
  have:=hst.l6 (hmd x rfl)
  show u=.panicking [{v:=l6 ι' x,recovered:=false}]
  rw [this];exact h
 | none=>exact h
theorem Gf (i:Inst)(l:List Inst)(cf:y8)(ls:List j3)(env:T j3)(m:Mem)(md:Option j3):
  zI (i::l) cf ls env m md=match isRec i with
   | true=>match md with
    | some x=>zI l cf (x::ls) (trD i.dst x env) m none
    | none=>zI l cf (.nilIface::ls) (trD i.dst .nilIface env) m none
   | false=>match i.op with
    | .p o=>ob (Ej i.guard (trP o) ls env) fun v=>zI l cf (v::ls) (trD i.dst v env) m md
    | .r o=>ob (Bw i.guard (trR o) ls env m) fun v=>zI l cf (v::ls) (trD i.dst v env) m md
    | _=>none:=rfl
theorem mF {ops:Array Oper}{o:Oper}{i:Nat}{rest:List Nat}(ho:ops[i]?=some o){done:List (Option Nat)}{ls:List j3}{env:T j3}{a:Act}{cs:List Frame}{Q:Exit→Act→List Frame→World→Prop}
  (s:St P ι n slots done ls env a.tmps) {g:Option (Opd×Bool)} (hg:gX ops done o.guard g) {v u:j3} (hu:u=bi (wZ g ls env) v .undef)
  (hrun:wZ g ls env=true→(execOp a.eval o).run P w=.ok (.value (l6 ι v)) w) (h:wpOpsSIn Fence.wide 0 P ops Q rest (a.put o.dst (l6 ι u)) cs w):
  wpOpsSIn Fence.wide 0 P ops Q (i::rest) a cs w:=by
 simp only [wpOpsSIn,ho]
 refine⟨fun _ _=>trivial,?_⟩
 rw [gy s hg]
 cases hb:wZ g ls env with
 | true=>
  rw [hb] at hu
  obtain rfl:u=v:=hu
  simp only [if_true]
  rw [hrun hb]
  exact h
 | false=>
  rw [hb] at hu
  obtain rfl:u=.undef:=hu
  rw [dM] at h
  simp only [Bool.false_eq_true,if_false]
  exact h
theorem LA (g:Option (Opd×Bool))(f:PF)(ls:List j3)(env:T j3):Ej g f ls env=bi (wZ g ls env) (f ls env) (some .undef):=by
 cases g<;>rfl
theorem LB (g:Option (Opd×Bool))(f:RF)(ls:List j3)(env:T j3)(m:Mem):Bw g f ls env m=bi (wZ g ls env) (f ls env m) (some .undef):=by
 cases g<;>rfl
theorem OP {done:List (Option Nat)}{op:Op}{po:POp}(h:.p po=ng P slots done op):cOp P slots done op=some (.p po):=by
 unfold ng at h
 split at h
 ·rename_i ao hao;rw [hao,← h]
 ·cases h
theorem OQ {done:List (Option Nat)}{op:Op}{ro:ROp}(h:.r ro=ng P slots done op):cOp P slots done op=some (.r ro):=by
 unfold ng at h
 split at h
 ·rename_i ao hao;rw [hao,← h]
 ·cases h
theorem Jk {done:List (Option Nat)}{op:Op}(h:.e .recover=ng P slots done op):cOp P slots done op=some (.e .recover):=by
 unfold ng at h
 split at h
 ·rename_i ao hao;rw [hao,← h]
 ·cases h
theorem Jl {i:Inst}(h:isRec i=true):i.op=.e .recover∧i.guard=none:=by
 unfold isRec at h
 split at h
 ·exact⟨by assumption,by assumption⟩
 ·cases h
theorem DK {cf:y8}{ops:Array Oper}{nt:Nat}(hin:∀(i:Nat)(o:Oper)(t:Tmp),ops[i]?=some o→o.dst=some t→t<nt){Q:Exit→Act→List Frame→World→Prop}{c₀:Frame}{cs:List Frame}
  (hm:RM P G ι m w.heap):
  ∀(l:List Nat) (done:List (Option Nat)) (insts:List Inst),eY P slots ops done l=some insts→∀(ls:List j3) (env:T j3) (md:Option j3) (u:FrameMode) (a:Act) (outs:List (EM×Option j3)),
   nt≤a.tmps.size→St P ι (m.nm ι) slots done ls env a.tmps→Dv ι m md→nV ι md u→zI insts cf ls env m md=some outs→
   (∀r∈outs,∀u' a',r.1.m=m→M8 ι (m.nm ι) slots r.1.env a'.tmps→a'.defers=a.defers→a'.tmps.size=a.tmps.size→Dv ι m r.2→nV ι r.2 u'→Q .normal a' ({c₀ with mode:=u'}::cs) w)→
   wpOpsSIn Fence.wide 0 P ops Q l a ({c₀ with mode:=u}::cs) w:=by
 intro l
 induction l with
 | nil=>
  intro done insts hc ls env md u a outs hnt s hmd hrel hv hQ
  simp only [eY,Option.some.injEq] at hc;subst hc
  have hv:some [((⟨env,m,none,[]⟩:EM),md)]=some outs:=by rw [← hv,zI]
  cases hv
  exact hQ _ (List.mem_singleton.2 rfl) u a rfl s.env rfl rfl hmd hrel
 | cons i rest ih=>
  intro done insts hc ls env md u a outs hnt s hmd hrel hv hQ
  obtain⟨x,d,l,hx,hl,rfl⟩:=gZ hc
  obtain⟨o,h1,rfl,h2,h3,h4⟩:=eD hx
  rw [Gf] at hv
  have step:∀(v:j3) (md':Option j3) (u':FrameMode),v.lt (m.nm ι)→Dv ι m md'→nV ι md' u'→zI l cf (v::ls) (trD x.dst v env) m md'=some outs→
    wpOpsSIn Fence.wide 0 P ops Q rest (a.put o.dst (l6 ι v)) ({c₀ with mode:=u'}::cs) w:=by
   intro v md' u' hlt hmd' hrel' hv
   rw [h3] at hv
   have s':=s.put o.dst (fun t ht=>Nat.lt_of_lt_of_le (hin i o t h1 ht) hnt) hlt
   refine ih _ _ hl _ _ md' u' (a.put o.dst (l6 ι v)) outs (by rw [N9];exact hnt) (by rw [(bB a o.dst (l6 ι v)).1];exact s') hmd' hrel' hv ?_
   intro r hr u'' a' e1 e2 e3 e4 e5 e6
   exact hQ r hr u'' a' e1 e2 (by rw [e3,(bB a o.dst _).2]) (e4.trans (N9 a o.dst _)) e5 e6
  cases hr:isRec x with
  | true=>
   rw [hr] at hv
   obtain⟨g1,g2⟩:=Jl hr
   rw [g1] at h2
   rw [g2] at h4
   have hop:=Jk h2
   have hw:Region.wanted o (yielded ops a.tmps)=true:=by rw [gy s h4];rfl
   have hrun:(execOp a.eval o).run P w=.ok .recover w:=by
    cases ho:o.op with
    | call c=>
     rw [ho] at hop
     cases qU hop with
     | recover hcal=>simp [execOp,ho,resolve,hcal,invoke,builtin]
    | _=>rw [ho] at hop;cases qU hop
   simp only [wpOpsSIn,h1]
   refine⟨fun _ _=>trivial,?_⟩
   rw [hw,if_pos rfl,hrun]
   cases md with
   | some y=>
    obtain rfl:u=.panicking [{v:=l6 ι y,recovered:=false}]:=hrel
    exact step y none (.panicking [{v:=l6 ι y,recovered:=true}]) (hmd y rfl) (fun _ h=>by cases h) (.inr ⟨_,rfl⟩) hv
   | none=>
    have hrec:recoverD ({c₀ with mode:=u}::cs)=none:=by
     rcases hrel with rfl | ⟨v,rfl⟩<;>rfl
    show (match recoverD ({c₀ with mode:=u}::cs) with
     | some (v,cs')=>wpOpsSIn Fence.wide 0 P ops Q rest (a.put o.dst v) cs' w
     | none=>wpOpsSIn Fence.wide 0 P ops Q rest (a.put o.dst .nilIface) ({c₀ with mode:=u}::cs) w)
    rw [hrec]
    have:=step .nilIface none u trivial hmd hrel hv
    simp only [l6] at this
    exact this
  | false=>
   rw [hr] at hv
   obtain⟨op,dst,guard⟩:=x
   cases op with
   | p po=>
    have hv:ob (Ej guard (trP po) ls env) (fun v=>zI l cf (v::ls) (trD dst v env) m md)=some outs:=hv
    obtain⟨v,hv1,hv⟩:=r9 hv
    rw [LA] at hv1
    have hop:=OP h2
    cases hb:wZ guard ls env with
    | true=>
     rw [hb] at hv1
     have hv1:trP po ls env=some v:=hv1
     obtain⟨g1,g2⟩:=jI s hop hv1
     exact mF h1 s h4 (v:=v) (u:=v) (by rw [hb];rfl) (fun _=>g2 o rfl w) (step v md u g1 hmd hrel hv)
    | false=>
     rw [hb] at hv1
     obtain rfl:j3.undef=v:=Option.some.inj hv1
     exact mF h1 s h4 (v:=.undef) (u:=.undef) (by rw [hb];rfl) (fun h=>by rw [hb] at h;cases h) (step .undef md u trivial hmd hrel hv)
   | r ro=>
    have hv:ob (Bw guard (trR ro) ls env m) (fun v=>zI l cf (v::ls) (trD dst v env) m md)=some outs:=hv
    obtain⟨v,hv1,hv⟩:=r9 hv
    rw [LB] at hv1
    have hop:=OQ h2
    cases hb:wZ guard ls env with
    | true=>
     rw [hb] at hv1
     have hv1:trR ro ls env m=some v:=hv1
     obtain⟨g1,g2⟩:=jJ s hm (lW hop) hv1
     exact mF h1 s h4 (v:=v) (u:=v) (by rw [hb];rfl) (fun _=>g2 o rfl) (step v md u g1 hmd hrel hv)
    | false=>
     rw [hb] at hv1
     obtain rfl:j3.undef=v:=Option.some.inj hv1
     exact mF h1 s h4 (v:=.undef) (u:=.undef) (by rw [hb];rfl) (fun h=>by rw [hb] at h;cases h) (step .undef md u trivial hmd hrel hv)
   | a _=>cases hv
   | e _=>cases hv
def Kq (P:Program)(G:Mem)(slots:List Nat)(nt:Nat)(cf:y8)(fuel:Nat)(c:Code)(ac:M6):Prop:=
 ∀(Q:Exit→Act→List Frame→World→Prop) (env:T j3) (m:Mem) (md:Option j3) (ι:Inj) (w:World) (a:Act) (c₀:Frame) (cs:List Frame) (u:FrameMode) (outs:List Ke),
  RM P G ι m w.heap→M8 ι (m.nm ι) slots env a.tmps→nt≤a.tmps.size→a.defers=[]→Dv ι m md→nV ι md u→dEv ac cf fuel env m md=some outs→
  (∀r∈outs,∀ι' w' a' u',Step P G ι m w ι' r.o.m w'→M8 ι' (r.o.m.nm ι') slots r.o.env a'.tmps→a'.tmps.size=a.tmps.size→aO ι' r.o.m r.o.marks a'.defers→NC ι' r.o→Dv ι' r.o.m r.md→nV ι' r.md u'→Q (Ja ι' r.o) a' ({c₀ with mode:=u'}::cs) w')→
  c.wpSIn Fence.wide 0 P Q a ({c₀ with mode:=u}::cs) w
theorem P5 {nt:Nat}{cf:y8}(hcf:qj P G cf)(fuel:Nat)(hdraw:eF P G slots nt cf none){c:Code}{ac:M6}(hc:I8 P slots c=some ac)(ht:tmpsIn nt c=true)
  (hev:∀env m md,dEv ac cf fuel env m md=bnd (trC ac cf fuel none env m []) fun o=>some [⟨o,md⟩]):Kq P G slots nt cf fuel c ac:=by
 intro Q env m md ι w a c₀ cs u outs hm hen hnt hdef hmd hrel hv hQ
 rw [hev] at hv
 obtain⟨os,hos,hk⟩:=L8 hv
 refine wpSIn_of_wpIn rfl (jP hcf fuel hdraw c ac hc ht _ none env m [] ι w a os hm hen hnt ⟨by rw [hdef];rfl,fun _ h=>by cases h⟩ ⟨rfl,fun _ h=>by cases h⟩ hos ?_)
 intro o ho ι' w' a' hst hen' hsz hmk hpv
 obtain⟨rs,hrs,hsub⟩:=hk o ho
 cases hrs
 exact hQ _ (hsub _ (List.mem_singleton.2 rfl)) ι' w' a' u hst hen' hsz hmk hpv (hmd.step hst).1 (hrel.step hmd hst)
theorem Gg {nt:Nat}{cf:y8}(hcf:qj P G cf)(fuel:Nat)(hdraw:eF P G slots nt cf none):∀(c:Code) (ac:M6),I8 P slots c=some ac→tmpsIn nt c=true→Kq P G slots nt cf fuel c ac:=by
 intro c
 induction c with
 | region id ops d=>
  intro ac hc ht
  cases d with
  | true=>
   refine P5 hcf fuel hdraw hc ht ?_
   rcases Dr hc with⟨n,l,rfl⟩ | ⟨n,l,t,rfl⟩
   ·exact fun env m md=>rfl
   ·exact fun env m md=>rfl
  | false=>
   have hc0:=hc
   simp only [I8] at hc
   split at hc
   ·rename_i insts hi
    cases hc
    cases hr:EI insts with
    | false=>
     refine P5 hcf fuel hdraw hc0 ht ?_
     intro env m md
     rw [dEv,hr]
    | true=>
     intro Q env m md ι w a c₀ cs u outs hm hen hnt hdef hmd hrel hv hQ
     rw [dEv,hr] at hv
     have hv:bnd (zI insts cf [] env m md) (fun r=>some [⟨⟨.normal,r.1.env,r.1.m,[],none⟩,r.2⟩])=some outs:=hv
     obtain⟨os,hos,hk⟩:=L8 hv
     refine wpSIn_region (DK (aQ ht) hm _ [] insts hi [] env md u a os hnt (St.start hm hen) hmd hrel hos ?_)
     intro r hr' u' a' e1 e2 e3 e4 e5 e6
     obtain⟨rs,hrs,hsub⟩:=hk r hr'
     cases hrs
     obtain⟨⟨env₁,m₁,px₁,mk₁⟩,md₁⟩:=r
     obtain rfl:m₁=m:=e1
     exact hQ _ (hsub _ (List.mem_singleton.2 rfl)) ι w a' u' (Step.refl hm) e2 e4 ⟨by rw [e3,hdef];rfl,fun _ h=>by cases h⟩ (O0 rfl) e5 e6
   ·cases hc
 | seq x y ihx ihy=>
  intro ac hc ht Q env m md ι w a c₀ cs u outs hm hen hnt hdef hmd hrel hv hQ
  simp only [tmpsIn,Bool.and_eq_true] at ht
  simp only [I8] at hc
  split at hc
  ·rename_i cx cy hx hy
   cases hc
   rw [dEv] at hv
   obtain⟨os,hos,hk⟩:=L8 hv
   refine wpSIn_seq (ihx cx hx ht.1 _ env m md ι w a c₀ cs u os hm hen hnt hdef hmd hrel hos ?_)
   rintro⟨⟨x₀,env₀,m₀,k₀,pv₀⟩,md₀⟩ ho ι' w' a' u' hst hen' hsz hmk' hpv hmd' hrel'
   obtain⟨os',hos',hsub⟩:=hk _ ho
   cases x₀ with
   | normal=>
    obtain rfl:pv₀=none:=fF hpv (by intro e;cases e)
    cases k₀ with
    | cons=>cases hos'
    | nil=>
     have hos':dEv cy cf fuel env₀ m₀ md₀=some os':=hos'
     refine ihy cy hy ht.2 Q env₀ m₀ md₀ ι' w' a' c₀ cs u' os' hst.rm hen' (by rw [hsz];exact hnt) hmk'.1 hmd' hrel' hos' ?_
     intro r hr ι'' w'' a'' u'' hst' hen'' hsz' hmk'' hpv' hmd'' hrel''
     exact hQ r (hsub _ hr) ι'' w'' a'' u'' (hst.trans hst') hen'' (hsz'.trans hsz) hmk'' hpv' hmd'' hrel''
   | exit id=>
    obtain rfl:pv₀=none:=fF hpv (by intro e;cases e)
    cases hos'
    exact hQ _ (hsub _ (List.mem_singleton.2 rfl)) ι' w' a' u' hst hen' hsz hmk' hpv hmd' hrel'
   | ret=>
    cases hos'
    have:=hQ _ (hsub _ (List.mem_singleton.2 rfl)) ι' w' a' u' hst hen' hsz hmk' hpv hmd' hrel'
    cases pv₀<;>exact this
  ·cases hc
 | cond c x y ihx ihy=>
  intro ac hc ht Q env m md ι w a c₀ cs u outs hm hen hnt hdef hmd hrel hv hQ
  simp only [tmpsIn,Bool.and_eq_true] at ht
  simp only [I8] at hc
  split at hc
  ·rename_i z cx cy hz hx hy
   cases hc
   rw [dEv] at hv
   obtain⟨t,h1,hv⟩:=jF hv
   obtain⟨e1,_⟩:=l9 (St.start hm hen) hz
   refine wpSIn_cond (t:=t) (by rw [e1,h1];rfl) ?_
   cases t with
   | true=>exact ihx cx hx ht.1 Q env m md ι w a c₀ cs u outs hm hen hnt hdef hmd hrel hv hQ
   | false=>exact ihy cy hy ht.2 Q env m md ι w a c₀ cs u outs hm hen hnt hdef hmd hrel hv hQ
  ·cases hc
 | skip=>intro ac hc ht;simp only [I8,Option.some.injEq] at hc;subst hc;exact P5 hcf fuel hdraw rfl ht fun _ _ _=>rfl
 | exit id=>intro ac hc ht;simp only [I8,Option.some.injEq] at hc;subst hc;exact P5 hcf fuel hdraw rfl ht fun _ _ _=>rfl
 | ret=>intro ac hc ht;simp only [I8,Option.some.injEq] at hc;subst hc;exact P5 hcf fuel hdraw rfl ht fun _ _ _=>rfl
 | block id x _=>
  intro ac hc ht
  have hform:∃y,ac=.block id y:=by
   simp only [I8] at hc
   split at hc
   ·cases hc;exact⟨_,rfl⟩
   ·cases hc
  obtain⟨y,rfl⟩:=hform
  exact P5 hcf fuel hdraw hc ht fun _ _ _=>rfl
 | loop x _=>
  intro ac hc ht
  have hform:∃y,ac=.loop y:=by
   simp only [I8] at hc
   split at hc
   ·cases hc;exact⟨_,rfl⟩
   ·cases hc
  obtain⟨y,rfl⟩:=hform
  exact P5 hcf fuel hdraw hc ht fun _ _ _=>rfl
 | rangeFunc g ps x y _ _=>
  intro ac hc ht
  have hform:∃a b c d,ac=.rangeFunc a b c d:=by
   simp only [I8] at hc
   split at hc
   ·cases hc;exact⟨_,_,_,_,rfl⟩
   ·cases hc
  obtain⟨_,_,_,_,rfl⟩:=hform
  exact P5 hcf fuel hdraw hc ht fun _ _ _=>rfl
 | scope x ihx=>intro ac hc;simp only [I8] at hc;cases hc
 | label l=>intro ac hc;simp only [I8] at hc;cases hc
 | goto l=>intro ac hc;simp only [I8] at hc;cases hc
 | refuse s=>
  intro ac hc _ Q env m md ι w a c₀ cs u outs hm hen hnt hdef hmd hrel hv hQ
  simp only [I8,Option.some.injEq] at hc;subst hc
  have hv:(none:Option (List Ke))=some outs:=hv
  cases hv
theorem yP {K:Known}(hfns:∀f sf,K.fns f=some sf→uK P f sf){cf:y8}(hcf:qj P G cf)(fuel:Nat)(hdraw:∀slots nt r,eF P G slots nt cf r):RI P G (qE K cf fuel):=by
 intro f args md m outs h
 obtain⟨sf,h1,h⟩:=r9 h
 obtain⟨hok,slots,fn,c,ac,rs,g1,g2,g3,g4,g5,g6,g7,e1,e2,e3,e4,e5⟩:=hfns f sf h1
 refine⟨hok,fun {ι w} hm hargs hmd=>?_⟩
 obtain⟨c',h2,h⟩:=r9 h
 obtain rfl:=e5 c' h2
 obtain⟨env,h3,h⟩:=r9 h
 obtain⟨os,hos,hk⟩:=L8 h
 rw [e1,e2] at h3
 obtain⟨q1,q2,q3⟩:=yI g6 g7 hargs h3
 refine callsDIn_of_wpSIn g1 g2 trivial fun c₀ cs hu=>?_
 have hc₀:({c₀ with mode:=Ar ι md}:Frame)=c₀:=by rw [← hu]
 rw [← hc₀]
 refine Gg hcf fuel (hdraw slots fn.ntmps none) c c' g3 g5 _ env m md ι w _ c₀ cs (Ar ι md) os hm q2 q3 rfl hmd nV.of hos ?_
 rintro⟨⟨x₀,env₀,m₀,k₀,pv₀⟩,md₀⟩ ho ι' w' a' u' hst hen' hsz hmk' hpv hmd' hrel'
 obtain⟨vs,hvs,hsub⟩:=hk _ ho
 have hform:k₀=[]∧pv₀=none∧(∀id,x₀≠.exit id)∧∃l,results sf.results env₀ m₀=some l∧vs=[(m₀,md₀)]:=by
  have hvs:Kg sf.results ⟨⟨x₀,env₀,m₀,k₀,pv₀⟩,md₀⟩=some vs:=hvs
  have key:ob (results sf.results env₀ m₀) (fun _=>some [(m₀,md₀)])=some vs→∃l,results sf.results env₀ m₀=some l∧vs=[(m₀,md₀)]:=by
   intro h
   obtain⟨l,hl,h⟩:=r9 h
   cases h
   exact⟨l,hl,rfl⟩
  cases x₀ with
  | exit id=>cases k₀<;>cases pv₀<;>cases hvs
  | normal=>
   cases k₀ with
   | cons=>cases pv₀<;>cases hvs
   | nil=>
    cases pv₀ with
    | some=>cases hvs
    | none=>exact⟨rfl,rfl,(fun id h=>by cases h),key hvs⟩
  | ret=>
   cases k₀ with
   | cons=>cases pv₀<;>cases hvs
   | nil=>
    cases pv₀ with
    | some=>cases hvs
    | none=>exact⟨rfl,rfl,(fun id h=>by cases h),key hvs⟩
 obtain⟨rfl,rfl,hne,l,hres,rfl⟩:=hform
 rw [e3] at hres
 obtain⟨r1,r2⟩:=mq hst.rm hen' _ rs g4 l hres
 have hd:a'.defers=[]:=hmk'.1
 have hrun:(Go.results fn a'.tmps).run P w'=.ok (l6 ι' (result l)) w':=by
  rw [yH,uJ,Array.mapM_eq_mapM_toList]
  simp only [Sem.run_bind,map_eq_pure_bind,bind_assoc,pure_bind]
  rw [r2]
  simp
 have fin:a'.defers=[]∧∃u'',(({c₀ with mode:=u'}:Frame)::cs)=({({c₀ with mode:=Ar ι md}:Frame) with mode:=u''}:Frame)::cs∧∃v,(Go.results fn a'.tmps).run P w'=.ok v w'∧
   ∃v',Ending.returned v=.returned v'∧∃r∈outs,∃ι',Step P G ι m w ι' r.1 w'∧Dv ι' r.1 r.2∧settle u''=Ar ι' r.2:=
  ⟨hd,u',rfl,_,hrun,_,rfl,(m₀,md₀),hsub _ (List.mem_singleton.2 rfl),ι',hst,hmd',hrel'.settle⟩
 cases x₀ with
 | normal=>exact fin
 | ret=>exact fin
 | exit id=>exact absurd rfl (hne id)
end
section
variable {P:Program}{ι ι':Inj}{n n':Nm}{r:Nat→Option Nat}
def yQ (ι:Inj)(n:Nm)(ι':Inj)(n':Nm)(r:Nat→Option Nat):Prop:=∀i j,r i=some j→n i→n' j∧ι' j=ι i∧n'.cap j=n.cap i
mutual
theorem gF (hr:yQ ι n ι' n' r):∀(v v':j3),fP r v=some v'→v.lt n→l6 ι' v'=l6 ι v∧v'.lt n'
 | .undef,v',h,_ | .bool _,v',h,_ | .int _ _,v',h,_ | .str _,v',h,_ | .nilPtr,v',h,_ | .nilSlice,v',h,_ | .nilMap,v',h,_ | .nilFunc,v',h,_ | .nilIface,v',h,_=>by
  simp only [fP,Option.some.injEq] at h;subst h;simp [l6,j3.lt]
 | .ptr i o,v',h,hv=>by
  simp only [fP] at h
  obtain⟨j,h1,h2⟩:=r9 h
  cases h2
  obtain⟨g1,g2,g3⟩:=hr i j h1 hv
  exact⟨by simp [l6,Inj.at,g2],g1⟩
 | .slice i o l c,v',h,hv=>by
  simp only [fP] at h
  obtain⟨j,h1,h2⟩:=r9 h
  cases h2
  obtain⟨g1,g2,g3⟩:=hr i j h1 hv
  exact⟨by simp [l6,Inj.at,g2],g1⟩
 | .sliceU i o l c,v',h,hv=>by
  simp only [fP] at h
  obtain⟨j,h1,h2⟩:=r9 h
  cases h2
  obtain⟨g1,g2,g3⟩:=hr i j h1 hv.1
  exact⟨by simp [l6,Inj.at,g2],g1,hv.2.1,by rw [g3];exact hv.2.2⟩
 | .map i,v',h,hv=>by
  simp only [fP] at h
  obtain⟨j,h1,h2⟩:=r9 h
  cases h2
  obtain⟨g1,g2,g3⟩:=hr i j h1 hv
  exact⟨by simp [l6,g2],g1⟩
 | .func fn a b,v',h,hv=>by
  obtain⟨h1,h2,h3⟩:=hv
  have key:∀v',(ob (nD r a) fun x=>ob (nD r b) fun y=>some (j3.func fn x y))=some v'→(∀l,fn≠.yield l)→l6 ι' v'=l6 ι (.func fn a b)∧v'.lt n':=by
   intro v' h hn
   obtain⟨x,h4,h⟩:=r9 h
   obtain⟨y,h5,h⟩:=r9 h
   cases h
   obtain⟨g1,g2⟩:=bE hr a x h4 h2
   obtain⟨g3,g4⟩:=bE hr b y h5 h3
   have e:dS ι' fn=dS ι fn:=by cases fn<;>first | rfl | exact absurd rfl (hn _)
   refine⟨by simp [l6,g1,g3,e],?_,g2,g4⟩
   cases fn<;>first | trivial | exact absurd rfl (hn _)
  cases fn with
  | yield l=>simp only [fP] at h;cases h
  | func f=>exact key v' (by simpa only [fP] using h) (by simp)
  | method f=>exact key v' (by simpa only [fP] using h) (by simp)
  | methodOf f g=>exact key v' (by simpa only [fP] using h) (by simp)
  | via f g x y=>exact key v' (by simpa only [fP] using h) (by simp)
 | .iface t v,v',h,hv=>by
  simp only [fP] at h
  obtain⟨x,h1,h2⟩:=r9 h
  cases h2
  obtain⟨g1,g2⟩:=gF hr v x h1 hv
  exact⟨by simp [l6,g1],g2⟩
 | .agg l,v',h,hv=>by
  simp only [fP] at h
  obtain⟨x,h1,h2⟩:=r9 h
  cases h2
  obtain⟨g1,g2⟩:=bE hr l x h1 hv
  exact⟨by simp [l6,g1],g2⟩
 | .tuple l,v',h,hv=>by
  simp only [fP] at h
  obtain⟨x,h1,h2⟩:=r9 h
  cases h2
  obtain⟨g1,g2⟩:=bE hr l x h1 hv
  exact⟨by simp [l6,g1],g2⟩
 | .pan v,v',h,hv=>by simp only [j3.lt] at hv
theorem bE (hr:yQ ι n ι' n' r):∀(l l':List j3),nD r l=some l'→ltL n l→l8 ι' l'=l8 ι l∧ltL n' l'
 | [],l',h,_=>by simp only [nD,Option.some.injEq] at h;subst h;simp [l8,ltL]
 | v::l,l',h,hv=>by
  simp only [nD] at h
  obtain⟨x,h1,h⟩:=r9 h
  obtain⟨y,h2,h⟩:=r9 h
  cases h
  obtain⟨g1,g2⟩:=gF hr v x h1 hv.1
  obtain⟨g3,g4⟩:=bE hr l y h2 hv.2
  exact⟨by simp [l8,g1,g3],g2,g4⟩
end
theorem rW (hr:yQ ι n ι' n' r):∀(l l':List (List j3)),pU r l=some l'→(∀x∈l,ltL n x)→l'.length=l.length∧∀(i:Nat) x,l[i]?=some x→∃x',l'[i]?=some x'∧l8 ι' x'=l8 ι x∧ltL n' x'
 | [],l',h,_=>by simp only [pU,Option.some.injEq] at h;subst h;simp
 | v::l,l',h,hv=>by
  simp only [pU] at h
  obtain⟨x,h1,h⟩:=r9 h
  obtain⟨y,h2,h⟩:=r9 h
  cases h
  obtain⟨g1,g2⟩:=bE hr v x h1 (hv v (by simp))
  obtain⟨g3,g4⟩:=rW hr l y h2 (fun x hx=>hv x (by simp [hx]))
  refine⟨by simp [g3],fun i u hu=>?_⟩
  cases i with
  | zero=>simp at hu;subst hu;exact⟨x,rfl,g1,g2⟩
  | succ i=>obtain⟨x',h3,h4⟩:=g4 i u (by simpa using hu);exact⟨x',by simpa using h3,h4⟩
theorem uN (hr:yQ ι n ι' n' r):∀(l l':List (j3×j3)),Em r l=some l'→(∀e∈l,e.1.lt n∧e.2.lt n)→l'.length=l.length∧(∀k,A8 ι' l' k=A8 ι l k)∧∀e∈l',e.1.lt n'∧e.2.lt n'
 | [],l',h,_=>by simp only [Em,Option.some.injEq] at h;subst h;simp [A8]
 | e::l,l',h,hv=>by
  simp only [Em] at h
  obtain⟨x,h1,h⟩:=r9 h
  obtain⟨y,h2,h⟩:=r9 h
  obtain⟨z,h3,h⟩:=r9 h
  cases h
  obtain⟨g1,g2⟩:=gF hr e.1 x h1 (hv e (by simp)).1
  obtain⟨g3,g4⟩:=gF hr e.2 y h2 (hv e (by simp)).2
  obtain⟨g5,g6,g7⟩:=uN hr l z h3 (fun x hx=>hv x (by simp [hx]))
  refine⟨by simp [g5],fun k=>by simp [A8,g1,g3,g6],fun u hu=>?_⟩
  rcases List.mem_cons.1 hu with rfl | hu
  ·exact⟨g2,g4⟩
  ·exact g7 u hu
theorem Gh {b:Blk}{nb:NB}(h:BD b=some nb):ah b=false:=by
 cases b<;>first | rfl | (simp [BD] at h)
theorem nW (nb:NB):ah (aU nb)=false:=by cases nb<;>rfl
theorem uO {r:Nat→Option Nat}{b:Blk}{nb nb':NB}(h:BD b=some nb)(h':sU r nb=some nb'):K8 (aU nb')=K8 b:=by
 cases b<;>simp only [BD,Option.some.injEq,reduceCtorEq] at h
 ·subst h;simp only [sU,Option.some.injEq] at h';subst h';rfl
 ·obtain⟨l,_,h⟩:=r9 h;cases h
  simp only [sU] at h'
  obtain⟨x,_,h'⟩:=r9 h';cases h';rfl
 ·subst h;simp only [sU] at h'
  obtain⟨x,_,h'⟩:=r9 h';cases h';rfl
 ·subst h;simp only [sU] at h'
  obtain⟨x,_,h'⟩:=r9 h';cases h';rfl
theorem Az (hr:yQ ι n ι' n' r){h:Array Obj}{l:Loc}{b:Blk}{nb nb':NB}(hb:Z9 P ι n h l b)(hn:BD b=some nb)(hnb:sU r nb=some nb'):Z9 P ι' n' h l (aU nb'):=by
 cases b<;>simp only [BD,Option.some.injEq,reduceCtorEq] at hn
 ·subst hn;simp only [sU,Option.some.injEq] at hnb;subst hnb;exact trivial
 ·rename_i rs k rows
  obtain⟨rl,h1,hn⟩:=r9 hn
  cases hn
  simp only [sU] at hnb
  obtain⟨rl',h2,hnb⟩:=r9 hnb
  cases hnb
  obtain⟨c,e,fz,b1,b2,⟨b3,N,b4,b5,_⟩,b6⟩:=hb
  obtain⟨s1,s2⟩:=T.CY _ _ _ _ h1
  have hrow:∀i x,rl[i]?=some x→i<k∧rows.get i=some x:=fun i x hx=>by
   have hi:i<k:=by have:=(List.getElem?_eq_some_iff.1 hx).1;omega
   have:=s2 i hi
   rw [Nat.zero_add,hx] at this
   exact⟨hi,this⟩
  have hlt:∀x∈rl,ltL n x:=fun x hx=>by
   obtain⟨i,hi⟩:=List.getElem?_of_mem hx
   obtain⟨g1,g2⟩:=hrow i x hi
   obtain⟨row,q1,q2,q3,q4⟩:=b6 i g1
   rw [g2] at q1;cases q1;exact q3
  obtain⟨g1,g2⟩:=rW hr rl rl' h2 hlt
  refine⟨c,e,fz,b1,b2,⟨by rw [C8,g1,s1];exact b3,rl'.length,(by rw [C8];exact Nat.le_refl _),T.Y9 rl',by rw [C8];exact lI (T.Y9 rl')⟩,fun i hi=>?_⟩
  rw [C8,g1,s1] at hi
  have hx:rl[i]?=some (rl[i]'(by omega)):=List.getElem?_eq_getElem (by omega)
  obtain⟨x',q1,q2,q3⟩:=g2 i _ hx
  obtain⟨_,g4⟩:=hrow i _ hx
  obtain⟨row,p1,p2,p3,p4⟩:=b6 i hi
  rw [g4] at p1;cases p1
  have hlen:x'.length=rs:=by
   have:=congrArg List.length q2
   simp only [G9] at this
   omega
  refine⟨x',by rw [T.M9];exact q1,hlen,q3,fun j hj=>?_⟩
  rw [p4 j hj,← K7,← K7,q2]
 ·subst hn
  simp only [sU] at hnb
  obtain⟨es',h2,hnb⟩:=r9 hnb
  cases hnb
  obtain⟨b1,b2⟩:=hb
  obtain⟨g1,g2,g3⟩:=uN hr _ _ h2 b2
  exact⟨by rw [g2,g1];exact b1,g3⟩
 ·subst hn
  simp only [sU] at hnb
  obtain⟨q,h2,hnb⟩:=r9 hnb
  cases hnb
  obtain⟨b1,b2⟩:=hb
  obtain⟨g1,g2,_⟩:=hr _ _ h2 b1
  exact⟨g1,by rw [g2];exact b2⟩
mutual
theorem jo {r1 r2:Nat→Option Nat}:∀(v u t:j3),fP r1 v=some u→fP r2 u=some t→fP (fun i=>ob (r1 i) r2) v=some t
 | .undef,u,t,h,h' | .bool _,u,t,h,h' | .int _ _,u,t,h,h' | .str _,u,t,h,h' | .nilPtr,u,t,h,h' | .nilSlice,u,t,h,h' | .nilMap,u,t,h,h' | .nilFunc,u,t,h,h' | .nilIface,u,t,h,h'=>by
  simp only [fP,Option.some.injEq] at h;subst h;simpa only [fP] using h'
 | .ptr i o,u,t,h,h' | .slice i o _ _,u,t,h,h' | .sliceU i o _ _,u,t,h,h' | .map i,u,t,h,h'=>by
  simp only [fP] at h
  obtain⟨j,h1,h2⟩:=r9 h
  cases h2
  simp only [fP] at h' ⊢
  obtain⟨k,h3,h4⟩:=r9 h'
  rw [h1,G5,h3];exact h4
 | .func fn a b,u,t,h,h'=>by
  cases fn with
  | yield l=>simp only [fP] at h;cases h
  | _=>
   simp only [fP] at h
   obtain⟨x,h1,h⟩:=r9 h
   obtain⟨y,h2,h⟩:=r9 h
   cases h
   simp only [fP] at h' ⊢
   obtain⟨x',h3,h'⟩:=r9 h'
   obtain⟨y',h4,h'⟩:=r9 h'
   rw [jq a x x' h1 h3,G5,jq b y y' h2 h4];exact h'
 | .iface ty v,u,t,h,h'=>by
  simp only [fP] at h
  obtain⟨x,h1,h⟩:=r9 h
  cases h
  simp only [fP] at h' ⊢
  obtain⟨x',h3,h'⟩:=r9 h'
  rw [jo v x x' h1 h3];exact h'
 | .pan v,u,t,h,h'=>by simp only [fP] at h;cases h
 | .agg l,u,t,h,h' | .tuple l,u,t,h,h'=>by
  simp only [fP] at h
  obtain⟨x,h1,h⟩:=r9 h
  cases h
  simp only [fP] at h' ⊢
  obtain⟨x',h3,h'⟩:=r9 h'
  rw [jq l x x' h1 h3];exact h'
theorem jq {r1 r2:Nat→Option Nat}:∀(v u t:List j3),nD r1 v=some u→nD r2 u=some t→nD (fun i=>ob (r1 i) r2) v=some t
 | [],u,t,h,h'=>by simp only [nD,Option.some.injEq] at h;subst h;simpa only [nD] using h'
 | v::l,u,t,h,h'=>by
  simp only [nD] at h
  obtain⟨x,h1,h⟩:=r9 h
  obtain⟨y,h2,h⟩:=r9 h
  cases h
  simp only [nD] at h' ⊢
  obtain⟨x',h3,h'⟩:=r9 h'
  obtain⟨y',h4,h'⟩:=r9 h'
  rw [jo v x x' h1 h3,G5,jq l y y' h2 h4];exact h'
end
theorem uP {r1 r2:Nat→Option Nat}:∀(v u t:List (List j3)),pU r1 v=some u→pU r2 u=some t→pU (fun i=>ob (r1 i) r2) v=some t
 | [],u,t,h,h'=>by simp only [pU,Option.some.injEq] at h;subst h;simpa only [pU] using h'
 | v::l,u,t,h,h'=>by
  simp only [pU] at h
  obtain⟨x,h1,h⟩:=r9 h
  obtain⟨y,h2,h⟩:=r9 h
  cases h
  simp only [pU] at h' ⊢
  obtain⟨x',h3,h'⟩:=r9 h'
  obtain⟨y',h4,h'⟩:=r9 h'
  rw [jq v x x' h1 h3,G5,uP l y y' h2 h4];exact h'
theorem yR {r1 r2:Nat→Option Nat}:∀(v u t:List (j3×j3)),Em r1 v=some u→Em r2 u=some t→Em (fun i=>ob (r1 i) r2) v=some t
 | [],u,t,h,h'=>by simp only [Em,Option.some.injEq] at h;subst h;simpa only [Em] using h'
 | e::l,u,t,h,h'=>by
  simp only [Em] at h
  obtain⟨x,h1,h⟩:=r9 h
  obtain⟨y,h2,h⟩:=r9 h
  obtain⟨z,h3,h⟩:=r9 h
  cases h
  simp only [Em] at h' ⊢
  obtain⟨x',h4,h'⟩:=r9 h'
  obtain⟨y',h5,h'⟩:=r9 h'
  obtain⟨z',h6,h'⟩:=r9 h'
  rw [jo e.1 x x' h1 h4,G5,jo e.2 y y' h2 h5,G5,yR l z z' h3 h6];exact h'
theorem Gi {r1 r2:Nat→Option Nat}{v u t:NB}(h:sU r1 v=some u)(h':sU r2 u=some t):sU (fun i=>ob (r1 i) r2) v=some t:=by
 cases v<;>simp only [sU] at h
 ·obtain⟨x,h1,h⟩:=r9 h
  cases h
  simp only [sU] at h' ⊢
  obtain⟨x',h3,h'⟩:=r9 h'
  rw [uP _ x x' h1 h3];exact h'
 ·obtain⟨x,h1,h⟩:=r9 h
  cases h
  simp only [sU] at h' ⊢
  obtain⟨x',h3,h'⟩:=r9 h'
  rw [yR _ x x' h1 h3];exact h'
 ·obtain⟨x,h1,h⟩:=r9 h
  cases h
  simp only [sU] at h' ⊢
  obtain⟨x',h3,h'⟩:=r9 h'
  rw [h1,G5,h3];exact h'
 ·cases h;exact h'
theorem mG {r:Nat→Option Nat}:∀(l l':List NB),pV r l=some l'→l'.length=l.length∧∀(i:Nat) x,l'[i]?=some x→∃y,l[i]?=some y∧sU r y=some x
 | [],l',h=>by simp only [pV,Option.some.injEq] at h;subst h;simp
 | v::l,l',h=>by
  simp only [pV] at h
  obtain⟨x,h1,h⟩:=r9 h
  obtain⟨y,h2,h⟩:=r9 h
  cases h
  obtain⟨g1,g2⟩:=mG l y h2
  refine⟨by simp [g1],fun i u hu=>?_⟩
  cases i with
  | zero=>simp at hu;subst hu;exact⟨v,rfl,h1⟩
  | succ i=>obtain⟨z,h3,h4⟩:=g2 i u (by simpa using hu);exact⟨z,by simpa using h3,h4⟩
mutual
theorem wK (lo:Nat):∀(v:j3),∀i∈Ii lo v,lo≤i
 | .ptr i _,j,h | .slice i _ _ _,j,h | .sliceU i _ _ _,j,h | .map i,j,h=>by
  simp only [Ii] at h
  cases hb:Nat.ble lo i with
  | true=>rw [hb] at h;obtain rfl:=List.mem_singleton.1 h;exact Nat.le_of_ble_eq_true hb
  | false=>rw [hb] at h;cases h
 | .func fn a b,j,h=>by
  simp only [Ii] at h
  rcases List.mem_append.1 h with h | h
  ·exact nX lo a j h
  ·exact nX lo b j h
 | .iface _ v,j,h=>by simp only [Ii] at h;exact wK lo v j h
 | .agg l,j,h | .tuple l,j,h=>by simp only [Ii] at h;exact nX lo l j h
 | .undef,j,h | .bool _,j,h | .int _ _,j,h | .str _,j,h | .nilPtr,j,h | .nilSlice,j,h | .nilMap,j,h | .nilFunc,j,h | .nilIface,j,h | .pan _,j,h=>by simp only [Ii] at h;cases h
theorem nX (lo:Nat):∀(l:List j3),∀i∈xD lo l,lo≤i
 | [],j,h=>by simp only [xD] at h;cases h
 | v::l,j,h=>by
  simp only [xD] at h
  rcases List.mem_append.1 h with h | h
  ·exact wK lo v j h
  ·exact nX lo l j h
end
theorem Ca (lo:Nat):∀(l:List (List j3)),∀i∈EH lo l,lo≤i
 | [],j,h=>by simp only [EH] at h;cases h
 | v::l,j,h=>by
  simp only [EH] at h
  rcases List.mem_append.1 h with h | h
  ·exact nX lo v j h
  ·exact Ca lo l j h
theorem Gj (lo:Nat):∀(l:List (j3×j3)),∀i∈OA lo l,lo≤i
 | [],j,h=>by simp only [OA] at h;cases h
 | e::l,j,h=>by
  simp only [OA] at h
  rcases List.mem_append.1 h with h | h
  ·exact wK lo _ j h
  ·rcases List.mem_append.1 h with h | h
   ·exact wK lo _ j h
   ·exact Gj lo l j h
theorem LC (lo:Nat)(b:NB):∀i∈Nz lo b,lo≤i:=by
 intro i h
 cases b with
 | cells rs rows=>exact Ca lo rows i h
 | map es=>exact Gj lo es i h
 | tail p=>
  simp only [Nz] at h
  cases hb:Nat.ble lo p with
  | true=>rw [hb] at h;obtain rfl:=List.mem_singleton.1 h;exact Nat.le_of_ble_eq_true hb
  | false=>rw [hb] at h;cases h
 | dead=>cases h
def Good (m:Mem)(lo:Nat)(l:List (Nat×NB)):Prop:=(∀p∈l,lo≤p.1∧∃b,m.get p.1=some b∧BD b=some p.2)∧(l.map (·.1)).Nodup
theorem uQ (n:Nat):∀l:List (Nat×NB),CV n l=true∨n∉l.map (·.1)
 | []=>.inr (by simp)
 | x::l=>by
  show bi (Nat.beq x.1 n) true (CV n l)=true∨_
  cases hb:Nat.beq x.1 n with
  | true=>exact .inl rfl
  | false=>
   rcases uQ n l with h | h
   ·exact .inl h
   ·refine .inr fun hm=>?_
    rcases List.mem_cons.1 (by simpa using hm:n∈x.1::l.map (·.1)) with h1 | h1
    ·rw [h1,Nat.beq_refl] at hb;cases hb
    ·exact h h1
theorem DL {m:Mem}{lo:Nat}:∀(k:Nat) (work:List Nat) (seen out:List (Nat×NB)),(∀i∈work,lo≤i)→Good m lo seen→reach m lo k work seen=some out→Good m lo out:=by
 intro k
 induction k with
 | zero=>intro work seen out _ _ h;cases h
 | succ k ih=>
  intro work seen out hw hs h
  cases work with
  | nil=>
   have h:some seen.reverse=some out:=h
   cases h
   exact⟨fun p hp=>hs.1 p (List.mem_reverse.1 hp),by rw [List.map_reverse];exact List.pairwise_reverse.2 (hs.2.imp fun h e=>h e.symm)⟩
  | cons i work=>
   have h:bi (CV i seen) (reach m lo k work seen) (ob (m.get i) fun b=>ob (BD b) fun nb=>reach m lo k (Nz lo nb++work) ((i,nb)::seen))=some out:=h
   rcases uQ i seen with h1 | h1
   ·rw [h1] at h;exact ih work seen out (fun j hj=>hw j (by simp [hj])) hs h
   ·cases hb:CV i seen with
    | true=>rw [hb] at h;exact ih work seen out (fun j hj=>hw j (by simp [hj])) hs h
    | false=>
     rw [hb] at h
     obtain⟨b,h2,h⟩:=r9 h
     obtain⟨nb,h3,h⟩:=r9 h
     refine ih _ _ out (fun j hj=>?_) ⟨fun p hp=>?_,?_⟩ h
     ·rcases List.mem_append.1 hj with hj | hj
      ·exact LC lo nb j hj
      ·exact hw j (by simp [hj])
     ·rcases List.mem_cons.1 hp with rfl | hp
      ·exact⟨hw i (by simp),b,h2,h3⟩
      ·exact hs.1 p hp
     ·rw [List.map_cons];exact List.nodup_cons.2 ⟨h1,hs.2⟩
theorem pE (i:Nat):∀(l:List Nat) (k j:Nat),placeOf i l k=some j→k≤j∧l[j-k]?=some i
 | [],k,j,h=>by cases h
 | x::l,k,j,h=>by
  have h:bi (Nat.beq x i) (some k) (placeOf i l (k+1))=some j:=h
  cases hb:Nat.beq x i with
  | true=>rw [hb] at h;cases h;rw [Nat.eq_of_beq_eq_true hb];simp
  | false=>
   rw [hb] at h
   obtain⟨h1,h2⟩:=pE i l (k+1) j h
   exact⟨by omega,by rw [show j-k=(j-(k+1))+1 from by omega];simpa using h2⟩
theorem yS {lo i j:Nat}{ids:List Nat}(h:zP lo ids i=some j):(i<lo∧j=i)∨(lo≤i∧lo≤j∧ids[j-lo]?=some i):=by
 unfold zP at h
 cases hb:Nat.ble lo i with
 | true=>
  rw [hb] at h
  obtain⟨h1,h2⟩:=pE i ids lo j h
  exact .inr ⟨Nat.le_of_ble_eq_true hb,h1,h2⟩
 | false=>
  rw [hb] at h
  have h:some i=some j:=h
  cases h
  exact .inl ⟨Nat.lt_of_not_le (yh hb),rfl⟩
theorem jr {m:Mem}{lo:Nat}{vs:List j3}{c:CO}(h:cO lo vs m=some c):∃seen,Good m lo seen∧c.ids=seen.map (·.1)∧nD (zP lo c.ids) vs=some c.vs∧pV (zP lo c.ids) (seen.map (·.2))=some c.bs:=by
 obtain⟨seen,h1,h⟩:=r9 h
 obtain⟨xs,h2,h⟩:=r9 h
 obtain⟨bs,h3,h⟩:=r9 h
 cases h
 exact⟨seen,DL _ _ _ _ (nX lo vs) ⟨(fun p (hp:p∈([]:List (Nat×NB)))=>by cases hp),(by simp:(([]:List (Nat×NB)).map (·.1)).Nodup)⟩ h1,rfl,h2,h3⟩
theorem AA (b:NB)(bs:List NB)(m:Mem):layAll (b::bs) m=layAll bs (m.new (aU b)):=rfl
theorem iw:∀(bs:List NB) (m:Mem),T.Ok m.t m.next→T.Ok (layAll bs m).t (layAll bs m).next∧(layAll bs m).next=m.next+bs.length∧(layAll bs m).lim=m.lim∧
  ∀i,(layAll bs m).get i=if i<m.next then m.get i else (bs[i-m.next]?).map aU
 | [],m,h=>by
  refine⟨h,rfl,rfl,fun i=>?_⟩
  show m.get i=_
  split
  ·rfl
  ·rename_i hi
   cases hg:m.get i with
   | none=>simp
   | some x=>exact absurd (Mem.y9 h hg) hi
 | b::bs,m,h=>by
  obtain⟨h1,h2,h3,h4⟩:=iw bs (m.new (aU b)) (h.push _)
  rw [AA]
  refine⟨h1,by rw [h2];simp;omega,h3,fun i=>?_⟩
  rw [h4,Mem.BH,Mem.D7 h]
  by_cases hi:i<m.next
  ·rw [if_pos (by omega),if_neg (by omega),if_pos hi]
  ·by_cases he:i=m.next
   ·subst he;rw [if_pos (by omega),if_pos rfl,if_neg (by omega)];simp
   ·rw [if_neg (by omega),if_neg hi,show i-m.next=(i-(m.next+1))+1 from by omega];simp
end
section
variable {P:Program}{G:Mem}{ι:Inj}{m:Mem}{w:World}
structure Cb (G:Mem)(gbs:List NB):Prop where
 ok:T.Ok G.t G.next
 len:gbs.length=G.next
 get:∀i,i<G.next→G.get i=(gbs[i]?).map aU
 shut:∀nb∈gbs,sU (fun i=>bi (Nat.blt i G.next) (some i) none) nb=some nb
noncomputable abbrev F8 (G:Mem)(bs:List NB):Mem:=(layAll bs G).shut
def gG (P:Program)(G:Mem)(f:FuncId)(args:List j3)(bs:List NB)(a:Ans):Prop:=
 ∀(ι:Inj) (w:World),RM P G ι (F8 G bs) w.heap→ltL ((F8 G bs).nm ι) args→
  CallsIn Fence.wide 0 P f (l8 ι args).toArray w fun e w'=>∃ι' r,Step P G ι (F8 G bs) w ι' r.m w'∧r.v.lt (r.m.nm ι')∧e=.returned (l6 ι' r.v)∧tu (layAll bs G).next r=some a
theorem rX:∀a b:List (List j3),tZ a b=true→a=b
 | [],[],_=>rfl
 | [],_ :: _,h=>by simp only [tZ] at h;cases h
 | _ :: _,[],h=>by simp only [tZ] at h;cases h
 | x::a,y::b,h=>by
  simp only [tZ] at h
  obtain⟨h1,h2⟩:=V4 h
  rw [eH (bC 100) _ _ h1,rX a b h2]
theorem uR:∀a b:List (j3×j3),CW a b=true→a=b
 | [],[],_=>rfl
 | [],_ :: _,h=>by simp only [CW] at h;cases h
 | _ :: _,[],h=>by simp only [CW] at h;cases h
 | x::a,y::b,h=>by
  simp only [CW] at h
  obtain⟨h1,h2⟩:=V4 h
  obtain⟨h2,h3⟩:=V4 h2
  have e1:=bC 100 _ _ h1
  have e2:=bC 100 _ _ h2
  obtain⟨x1,x2⟩:=x
  obtain⟨y1,y2⟩:=y
  have e1:x1=y1:=e1
  have e2:x2=y2:=e2
  rw [e1,e2,uR a b h3]
theorem DN:∀a b:NB,KX a b=true→a=b:=by
 intro a b h
 cases a<;>cases b<;>simp only [KX] at h<;>first | (cases h;done) | skip
 ·obtain⟨h1,h2⟩:=V4 h
  rw [Nat.eq_of_beq_eq_true h1,rX _ _ h2]
 ·rw [uR _ _ h]
 ·rw [Nat.eq_of_beq_eq_true h]
 ·rfl
theorem iy:∀a b:List NB,fQ a b=true→a=b
 | [],[],_=>rfl
 | [],_ :: _,h=>by simp only [fQ] at h;cases h
 | _ :: _,[],h=>by simp only [fQ] at h;cases h
 | x::a,y::b,h=>by
  simp only [fQ] at h
  obtain⟨h1,h2⟩:=V4 h
  rw [DN _ _ h1,iy a b h2]
theorem kP {lo:Nat}:∀(l:List VM) (a:Ans),BF lo l=some a→∀r∈l,tu lo r=some a
 | [],a,h,r,hr=>by cases hr
 | [x],a,h,r,hr=>by
  obtain rfl:=List.mem_singleton.1 hr
  obtain⟨b,h1,h2⟩:=r9 h
  have h2:some b=some a:=h2
  cases h2;exact h1
 | x::y::l,a,h,r,hr=>by
  obtain⟨b,h1,h2⟩:=r9 h
  have h2:(ob (BF lo (y::l)) fun c=>bi (jW 100 b.v c.v) (bi (fQ b.bs c.bs) (some b) none) none)=some a:=h2
  obtain⟨c,h3,h2⟩:=r9 h2
  obtain⟨h4,h2⟩:=p9 h2
  obtain⟨h5,h2⟩:=p9 h2
  have h2:some b=some a:=h2
  cases h2
  rcases List.mem_cons.1 hr with rfl | hr
  ·exact h1
  ·have:=kP (y::l) c h3 r hr
   rw [this]
   have e1:=bC 100 _ _ h4
   have e2:=iy _ _ h5
   obtain⟨av,ab⟩:=a
   obtain⟨cv,cb⟩:=c
   have e1:av=cv:=e1
   have e2:ab=cb:=e2
   rw [e1,e2]
theorem DR {cf:y8}(hcf:qj P G cf){dcf:fO}(hdc:RI P G dcf)(hmix:P.follows .mixedOrders=true)(fuel:Nat){f:FuncId}{sf:SFn}(hf:uK P f sf){args:List j3}{bs:List NB}{a:Ans}
  (h:(ob (D6 cf dcf fuel sf args (F8 G bs)) fun l=>BF (layAll bs G).next l)=some a):gG P G f args bs a:=by
 intro ι w hm hargs
 obtain⟨l,h1,h2⟩:=r9 h
 refine (BP hcf hdc fuel (fun slots nt r=>gD hmix hcf slots nt r) hf h1 hm hargs).mono ?_
 rintro e w' (⟨v,rfl,r,hr,ι',g1,g2,rfl⟩ | ⟨r,hr,x,ι',hx,_⟩)
 ·exact⟨ι',r,g1,g2,rfl,kP l a h2 r hr⟩
 ·exfalso
  have h3:=kP l a h2 r hr
  obtain⟨co,hco,_⟩:=r9 h3
  obtain⟨seen,_,_,h4,_⟩:=jr hco
  rw [hx] at h4
  simp only [nD] at h4
  obtain⟨y,h5,_⟩:=r9 h4
  simp only [fP] at h5
  cases h5
theorem yT {α:Type}(l:List α):(T.ofList l).slice l.length 0=some l:=by
 have key:∀(k i:Nat),i+k=l.length→(T.ofList l).slice k i=some (l.drop i):=by
  intro k
  induction k with
  | zero=>intro i h;rw [T.uf,List.drop_of_length_le (by omega)]
  | succ k ih=>
   intro i h
   have hi:i<l.length:=by omega
   rw [T.ug,T.M9,List.getElem?_eq_getElem hi,G5,ih (i+1) (by omega),G5,List.getElem_cons_drop]
 exact key l.length 0 (by omega)
theorem DT (nb:NB):BD (aU nb)=some nb:=by
 cases nb with
 | cells rs rows=>
  show (ob ((T.ofList rows).slice (len' rows) 0) fun l=>some (NB.cells rs l))=_
  rw [C8,yT];rfl
 | map es=>rfl
 | tail p=>rfl
 | dead=>rfl
def ay (g:Nat)(ι:Inj)(ids:List Nat):Inj:=fun i=>if i<g then ι i else ι (ids.getD (i-g) 0)
theorem LD (hB:∃gbs,Cb G gbs)(hm:RM P G ι m w.heap){vs:List j3}{c:CO}(hc:cO G.next vs m=some c)(hvs:ltL (m.nm ι) vs):
  RM P G (ay G.next ι c.ids) (F8 G c.bs) w.heap∧ltL ((F8 G c.bs).nm (ay G.next ι c.ids)) c.vs∧l8 (ay G.next ι c.ids) c.vs=l8 ι vs∧c.bs.length=c.ids.length∧
   (∀(k i:Nat),c.ids[k]?=some i→G.next≤i∧m.has i)∧(∀i,G.next≤i→i<(F8 G c.bs).next→∃j,c.ids[i-G.next]?=some j):=by
 obtain⟨gbs,hB⟩:=hB
 obtain⟨seen,⟨hg1,hg2⟩,hids,h3,h4⟩:=jr hc
 obtain⟨l1,l2,l3,l4⟩:=iw c.bs G hB.ok
 obtain⟨b1,b2⟩:=mG _ _ h4
 have hlen:c.bs.length=c.ids.length:=by rw [b1,hids];simp
 have hseen:∀(k i:Nat),c.ids[k]?=some i→G.next≤i∧∃b nb nb',m.get i=some b∧BD b=some nb∧c.bs[k]?=some nb'∧sU (zP G.next c.ids) nb=some nb':=by
  intro k i hk
  rw [hids,List.getElem?_map] at hk
  cases hp:seen[k]? with
  | none=>rw [hp] at hk;cases hk
  | some p=>
   rw [hp] at hk
   have hk:p.1=i:=Option.some.inj hk
   obtain⟨q1,b,q2,q3⟩:=hg1 p (List.mem_of_getElem? hp)
   rw [hk] at q1 q2
   have hkl:k<c.bs.length:=by rw [hlen,hids,List.length_map];exact (List.getElem?_eq_some_iff.1 hp).1
   obtain⟨y,q4,q5⟩:=b2 k _ (List.getElem?_eq_getElem hkl)
   rw [List.getElem?_map,hp] at q4
   have q4:p.2=y:=Option.some.inj q4
   rw [← q4] at q5
   exact⟨q1,b,p.2,_,q2,q3,List.getElem?_eq_getElem hkl,q5⟩
 have hget:∀i,(F8 G c.bs).get i=if i<G.next then G.get i else (c.bs[i-G.next]?).map aU:=l4
 have hnext:(F8 G c.bs).next=G.next+c.bs.length:=l2
 have hbase:∀i,i<G.next→m.get i=G.get i:=hm.base
 have hin:∀k i,c.ids[k]?=some i→ay G.next ι c.ids (G.next+k)=ι i:=by
  intro k i hk
  unfold ay
  rw [if_neg (by omega),show G.next+k-G.next=k from by omega,List.getD_eq_getElem?_getD,hk];rfl
 have hlo:∀i,i<G.next→ay G.next ι c.ids i=ι i:=fun i hi=>if_pos hi
 have hr:yQ ι (m.nm ι) (ay G.next ι c.ids) ((F8 G c.bs).nm (ay G.next ι c.ids)) (zP G.next c.ids):=by
  intro i j hij ⟨y,hy,hyv⟩
  rcases yS hij with⟨h1,rfl⟩ | ⟨h1,h2,h3⟩
  ·refine⟨⟨y,?_,hyv⟩,hlo _ h1,congrArg Loc.cap (hlo _ h1)⟩
   rw [hget,if_pos h1,← hbase _ h1];exact hy
  ·have e:=hin (j-G.next) i h3
   rw [show G.next+(j-G.next)=j from by omega] at e
   obtain⟨_,_,_,nb',_,_,q,_⟩:=hseen (j-G.next) i h3
   refine⟨⟨aU nb',?_,nW nb'⟩,e,congrArg Loc.cap e⟩
   rw [hget,if_neg (by omega),q];rfl
 have hr0:yQ ι (m.nm ι) (ay G.next ι c.ids) ((F8 G c.bs).nm (ay G.next ι c.ids)) (fun i=>bi (Nat.blt i G.next) (some i) none):=by
  intro i j hij ⟨y,hy,hyv⟩
  have hij:bi (Nat.blt i G.next) (some i) none=some j:=hij
  obtain⟨h1,h2⟩:=p9 hij
  cases h2
  have h1:i<G.next:=Eq.mp Nat.blt_eq h1
  refine⟨⟨y,?_,hyv⟩,hlo _ h1,congrArg Loc.cap (hlo _ h1)⟩
  rw [hget,if_pos h1,← hbase _ h1];exact hy
 obtain⟨v1,v2⟩:=bE hr vs c.vs h3 hvs
 have hspot:∀i x,(F8 G c.bs).get i=some x→K8 x=true→(ay G.next ι c.ids i).spot=none:=by
  intro i b hb hlv
  rw [hget] at hb
  split at hb
  ·rename_i hi
   rw [hlo i hi]
   exact hm.spot i b (by rw [hbase i hi];exact hb) hlv
  ·rename_i hi
   cases hnb:c.bs[i-G.next]? with
   | none=>rw [hnb] at hb;cases hb
   | some nb=>
    rw [hnb] at hb
    have hb:aU nb=b:=Option.some.inj hb
    subst hb
    have hk:i-G.next<c.ids.length:=by have:=(List.getElem?_eq_some_iff.1 hnb).1;omega
    have hkk:=List.getElem?_eq_getElem hk
    obtain⟨_,bb,nb0,nb',q1,q2,q3,q4⟩:=hseen _ _ hkk
    rw [hnb] at q3;cases q3
    have e:=hin (i-G.next) _ hkk
    rw [show G.next+(i-G.next)=i from by omega] at e
    rw [e]
    exact hm.spot _ _ q1 (by rw [← uO q2 q4];exact hlv)
 refine⟨⟨l1,?_,fun i x hi hx=>?_,?_,Nat.le_refl _,hm.gle,fun i hi=>by rw [hget,if_pos hi],fun i hi=>?_,fun i hi=>?_,fun i x hx hl=>?_,hm.gsz⟩,v2,v1,hlen,fun k i hk=>?_,fun i h1 h2=>?_⟩
 ·intro i b hb
  rw [hget] at hb
  split at hb
  ·rename_i hi
   rw [hlo i hi]
   have hmb:m.get i=some b:=by rw [hbase i hi];exact hb
   have hb':=hm.blk i b hmb
   rw [hB.get i hi] at hb
   cases hnb:gbs[i]? with
   | none=>rw [hnb] at hb;cases hb
   | some nb=>
    rw [hnb] at hb
    have hb:aU nb=b:=Option.some.inj hb
    subst hb
    exact Az hr0 hb' (DT nb) (hB.shut nb (List.mem_of_getElem? hnb))
  ·rename_i hi
   cases hnb:c.bs[i-G.next]? with
   | none=>rw [hnb] at hb;cases hb
   | some nb=>
    rw [hnb] at hb
    have hb:aU nb=b:=Option.some.inj hb
    subst hb
    have hk:i-G.next<c.ids.length:=by have:=(List.getElem?_eq_some_iff.1 hnb).1;omega
    have hkk:=List.getElem?_eq_getElem hk
    obtain⟨_,bb,nb0,nb',q1,q2,q3,q4⟩:=hseen _ _ hkk
    rw [hnb] at q3;cases q3
    have e:=hin (i-G.next) _ hkk
    rw [show G.next+(i-G.next)=i from by omega] at e
    rw [e]
    exact Az hr (hm.blk _ _ q1) q2 q4
 ·have:=Mem.y9 (m:=F8 G c.bs) l1 hx
  have hi:(F8 G c.bs).next≤i:=hi
  omega
 ·show G.next≤(F8 G c.bs).next
  rw [hnext];omega
 ·obtain⟨y,h1,h2⟩:=hm.ghas i hi
  have hi':i<G.next:=Nat.lt_of_lt_of_le hi hm.gle
  exact⟨y,by rw [hget,if_pos hi',← hbase i hi'];exact h1,h2⟩
 ·rw [hlo i (Nat.lt_of_lt_of_le hi hm.gle)];exact hm.glob i hi
 ·exact hspot i x hx hl
 ·obtain⟨q1,b,nb,_,q2,q3,_⟩:=hseen k i hk
  exact⟨q1,b,q2,Gh q3⟩
 ·rw [hnext] at h2
  exact⟨_,List.getElem?_eq_getElem (by omega)⟩
def U8 (next:Nat)(ι ι2:Inj)(ids:List Nat):Inj:=fun i=>if i<next then ι i else ι2 (ids.getD (i-next) 0)
theorem rY {g next i j:Nat}{ids:List Nat}(h:aX g ids next i=some j):
  (i<g∧j=i)∨(g≤i∧i-g<ids.length∧ids[i-g]?=some j)∨(g+ids.length≤i∧j=next+(i-g-ids.length)):=by
 unfold aX at h
 rw [C8] at h
 cases h1:Nat.blt i g with
 | true=>rw [h1] at h;have h:some i=some j:=h;cases h;exact .inl ⟨Eq.mp Nat.blt_eq h1,rfl⟩
 | false=>
  rw [h1] at h
  have h1:=bT h1
  cases h2:Nat.blt (Nat.sub i g) ids.length with
  | true=>
   rw [h2] at h
   have h:sW (i-g) ids=some j:=h
   rw [cZ] at h
   exact .inr (.inl ⟨h1,Eq.mp Nat.blt_eq h2,h⟩)
  | false=>
   rw [h2] at h
   have h2:ids.length≤i-g:=bT h2
   have h:some (next+(i-g-ids.length))=some j:=h
   cases h
   exact .inr (.inr ⟨by omega,rfl⟩)
theorem AB (hB:∃gbs,Cb G gbs){f:FuncId}{args:List j3}{c:CO}{a:Ans}{v:j3}{bs:List NB}(hm:RM P G ι m w.heap)(hargs:ltL (m.nm ι) args)(hc:cO G.next args m=some c)(ha:gG P G f c.vs c.bs a)
  (hv:fP (aX G.next c.ids m.next) a.v=some v) (hbs:pV (aX G.next c.ids m.next) a.bs=some bs):
  CallsIn Fence.wide 0 P f (l8 ι args).toArray w (F9 P G ι m w [⟨v,layAll bs m⟩]):=by
 have hBok:T.Ok G.t G.next:=by obtain⟨gbs,hB⟩:=hB;exact hB.ok
 obtain⟨hm1,hargs1,hconc,hlen,hidh,hidx⟩:=LD hB hm hc hargs
 have hcall:=ha (ay G.next ι c.ids) w hm1 hargs1
 rw [hconc] at hcall
 refine hcall.mono ?_
 rintro e w' ⟨ι2,r,hst,hrv,rfl,hans⟩
 obtain⟨co,hco,hans⟩:=r9 hans
 obtain⟨seen,⟨hg1,hg2⟩,hids,h3,h4⟩:=jr hco
 have hvs:∃u,co.vs=[u]∧fP (zP (layAll c.bs G).next co.ids) r.v=some u:=by
  simp only [nD] at h3
  obtain⟨x,h5,h3⟩:=r9 h3
  obtain⟨y,h6,h3⟩:=r9 h3
  cases h6
  have h3:some [x]=some co.vs:=h3
  exact⟨x,(Option.some.inj h3).symm,h5⟩
 obtain⟨u,hu,hru⟩:=hvs
 rw [hu] at hans
 have hans:some (⟨u,co.bs⟩:Ans)=some a:=hans
 cases hans
 obtain⟨b1,b2⟩:=mG _ _ h4
 obtain⟨b3,b4⟩:=mG _ _ hbs
 obtain⟨l1,l2,l3,l4⟩:=iw c.bs G hBok
 obtain⟨k1,k2,k3,k4⟩:=iw bs m hm.ok
 have hlo:(F8 G c.bs).lim=(layAll c.bs G).next:=rfl
 have hlolen:(layAll c.bs G).next=G.next+c.ids.length:=by rw [l2,hlen]
 have hno:∀b,¬ EW (ay G.next ι c.ids) (F8 G c.bs) b:=by
  rintro b ⟨i,x,hi,hx,_,_⟩
  have:=Mem.y9 (m:=F8 G c.bs) hm1.ok hx
  have hi:(F8 G c.bs).next≤i:=hi
  omega
 have hheap:∀b,b<w.heap.size→w'.heap[b]?=w.heap[b]?:=fun b hb=>hst.frame b hb (hno b)
 have hnewloc:∀i x,(layAll c.bs G).next≤i→r.m.get i=some x→K8 x=true→w.heap.size≤(ι2 i).b:=by
  intro i x hi hx hl
  rcases hst.own _ ⟨i,x,by rw [hst.lim];exact hi,hx,hl,rfl⟩ with h | h
  ·exact absurd h (hno _)
  ·exact h
 have hseen:∀(k i:Nat),co.ids[k]?=some i→(layAll c.bs G).next≤i∧∃b nb nb',r.m.get i=some b∧BD b=some nb∧bs[k]?=some nb'∧
   sU (fun i=>ob (zP (layAll c.bs G).next co.ids i) (aX G.next c.ids m.next)) nb=some nb':=by
  intro k i hk
  have hk':=hk
  rw [hids,List.getElem?_map] at hk
  cases hp:seen[k]? with
  | none=>rw [hp] at hk;cases hk
  | some p=>
   rw [hp] at hk
   have hk:p.1=i:=Option.some.inj hk
   obtain⟨q1,b,q2,q3⟩:=hg1 p (List.mem_of_getElem? hp)
   rw [hk] at q1 q2
   have hkl:k<co.bs.length:=by rw [b1,List.length_map];exact (List.getElem?_eq_some_iff.1 hp).1
   have hkl2:k<bs.length:=by rw [b3];exact hkl
   obtain⟨y,q4,q5⟩:=b2 k _ (List.getElem?_eq_getElem hkl)
   obtain⟨z,q6,q7⟩:=b4 k _ (List.getElem?_eq_getElem hkl2)
   have q6:co.bs[k]?=some z:=q6
   rw [List.getElem?_eq_getElem hkl] at q6
   cases q6
   rw [List.getElem?_map,hp] at q4
   have q4:p.2=y:=Option.some.inj q4
   rw [← q4] at q5
   exact⟨q1,b,p.2,_,q2,q3,List.getElem?_eq_getElem hkl2,Gi q5 q7⟩
 have hbl:bs.length=co.ids.length:=by rw [b3];show co.bs.length=_;rw [b1,hids];simp
 have hget:∀i,(layAll bs m).get i=if i<m.next then m.get i else (bs[i-m.next]?).map aU:=k4
 have hold:∀i,i<m.next→U8 m.next ι ι2 co.ids i=ι i:=fun i hi=>if_pos hi
 have hnew:∀k i,co.ids[k]?=some i→U8 m.next ι ι2 co.ids (m.next+k)=ι2 i:=by
  intro k i hk
  unfold U8
  rw [if_neg (by omega),show m.next+k-m.next=k from by omega,List.getD_eq_getElem?_getD,hk];rfl
 have hlt:∀i x,m.get i=some x→i<m.next:=fun i x hx=>Mem.y9 hm.ok hx
 have hhas:∀i,m.has i→(layAll bs m).has i:=fun i ⟨x,h1,h2⟩=>⟨x,by rw [hget,if_pos (hlt i x h1)];exact h1,h2⟩
 have hext:∀i,m.has i→U8 m.next ι ι2 co.ids i=ι i:=fun i ⟨x,h1,_⟩=>hold i (hlt i x h1)
 have hGm:G.next≤m.next:=Nat.le_trans hm.glim hm.limn
 have hr:yQ ι2 (r.m.nm ι2) (U8 m.next ι ι2 co.ids) ((layAll bs m).nm (U8 m.next ι ι2 co.ids)) (fun i=>ob (zP (layAll c.bs G).next co.ids i) (aX G.next c.ids m.next)):=by
  intro i j hij ⟨y,hy,hyv⟩
  obtain⟨t,h5,h6⟩:=r9 hij
  have fin:(layAll bs m).has j∧U8 m.next ι ι2 co.ids j=ι2 i→((layAll bs m).nm (U8 m.next ι ι2 co.ids)) j∧U8 m.next ι ι2 co.ids j=ι2 i∧((layAll bs m).nm (U8 m.next ι ι2 co.ids)).cap j=(r.m.nm ι2).cap i:=
   fun ⟨p,q⟩=>⟨p,q,congrArg Loc.cap q⟩
  rcases yS h5 with⟨h7,rfl⟩ | ⟨h7,h8,h9⟩
  ·
   have hcan:(F8 G c.bs).get t=some y:=by rw [← hst.old t h7];exact hy
   have hι2:ι2 t=ay G.next ι c.ids t:=hst.ext t ⟨y,hcan,hyv⟩
   rcases rY h6 with⟨h10,rfl⟩ | ⟨h10,h11,h12⟩ | ⟨h10,_⟩
   ·have hmj:m.has j:=by
     refine⟨y,?_,hyv⟩
     have h13:(F8 G c.bs).get j=if j<G.next then G.get j else (c.bs[j-G.next]?).map aU:=l4 j
     rw [h13,if_pos h10] at hcan
     rw [hm.base j h10];exact hcan
    exact fin ⟨hhas j hmj,by rw [hext j hmj,hι2];exact (if_pos h10).symm⟩
   ·obtain⟨_,hmj⟩:=hidh _ _ h12
    refine fin ⟨hhas j hmj,?_⟩
    rw [hext j hmj,hι2]
    unfold ay
    rw [if_neg (by omega),List.getD_eq_getElem?_getD,h12];rfl
   ·omega
  ·
   rcases rY h6 with⟨h10,_⟩ | ⟨h10,h11,_⟩ | ⟨h10,rfl⟩
   ·omega
   ·omega
   ·have e:t-G.next-c.ids.length=t-(layAll c.bs G).next:=by omega
    obtain⟨_,_,_,nb',_,_,q,_⟩:=hseen _ _ h9
    refine fin ⟨⟨aU nb',?_,nW nb'⟩,by rw [e];exact hnew _ _ h9⟩
    rw [e,hget,if_neg (by omega),show m.next+(t-(layAll c.bs G).next)-m.next=t-(layAll c.bs G).next from by omega,q];rfl
 obtain⟨v1,v2⟩:=gF hr r.v v (jo _ _ _ hru hv) hrv
 have hcase:∀i x,(layAll bs m).get i=some x→(i<m.next∧m.get i=some x)∨∃k id b,i=m.next+k∧co.ids[k]?=some id∧r.m.get id=some b∧(layAll c.bs G).next≤id∧K8 x=K8 b∧
   Z9 P (U8 m.next ι ι2 co.ids) ((layAll bs m).nm (U8 m.next ι ι2 co.ids)) w'.heap (ι2 id) x:=by
  intro i x hx
  rw [hget] at hx
  split at hx
  ·exact .inl ⟨by assumption,hx⟩
  ·rename_i hi
   cases hnb:bs[i-m.next]? with
   | none=>rw [hnb] at hx;cases hx
   | some nb=>
    rw [hnb] at hx
    have hx:aU nb=x:=Option.some.inj hx
    subst hx
    have hk:i-m.next<co.ids.length:=by have:=(List.getElem?_eq_some_iff.1 hnb).1;omega
    have hkk:=List.getElem?_eq_getElem hk
    obtain⟨q0,b,nb0,nb',q1,q2,q3,q4⟩:=hseen _ _ hkk
    rw [hnb] at q3;cases q3
    exact .inr ⟨i-m.next,_,b,by omega,hkk,q1,q0,uO q2 q4,Az hr (hst.rm.blk _ _ q1) q2 q4⟩
 refine .inl ⟨l6 ι2 r.v,rfl,⟨v,layAll bs m⟩,List.mem_singleton.2 rfl,U8 m.next ι ι2 co.ids,?_,v2,v1.symm⟩
 refine⟨⟨k1,?_,?_,by rw [k3];exact hm.glim,by rw [k3,k2];exact Nat.le_trans hm.limn (by omega),hm.gle,fun i hi=>by rw [hget,if_pos (by omega)];exact hm.base i hi,fun i hi=>hhas i (hm.ghas i hi),
  fun i hi=>by rw [hext i (hm.ghas i hi)];exact hm.glob i hi,fun i x hx hl=>by
   rcases hcase i x hx with⟨h1,h2⟩ | ⟨k,id,b,rfl,h2,h3,_,h5,_⟩
   ·rw [hold i h1];exact hm.spot i x h2 hl
   ·rw [hnew k id h2];exact hst.rm.spot id b h3 (by rw [← h5];exact hl),hst.rm.gsz⟩,hext,hhas,by rw [k2];omega,k3,fun i hi=>by rw [hget,if_pos (by have:=hm.limn;omega)],hst.size,fun b hb _=>hheap b hb,?_,hst.os,hst.out,hst.tape⟩
 ·intro i x hx
  rcases hcase i x hx with⟨h1,h2⟩ | ⟨k,id,b,rfl,h2,h3,_,_,h4⟩
  ·rw [hold i h1]
   exact (hm.blk i x h2).mono (n:=m.nm ι) hext (Mem.O6 hhas hext) fun hl=>hheap _ (R9 (hm.blk i x h2) hl)
  ·rw [hnew k id h2];exact h4
 ·intro i x hi hx hl
  rw [k3] at hi
  rcases hcase i x hx with⟨h1,h2⟩ | ⟨k,id,b,rfl,h2,h3,h4,h5,h6⟩
  ·have ho:=hm.own i x hi h2 hl
   have hb:=R9 (hm.blk i x h2) hl
   refine⟨fun j y hj hy hly=>?_,fun c e fz hcc=>?_⟩
   ·rcases hcase j y hy with⟨g1,g2⟩ | ⟨k',id',b',rfl,g2,g3,g4,g5,g6⟩
    ·rw [hold j g1,hold i h1];exact ho.alone j y hj g2 hly
    ·rw [hnew k' id' g2,hold i h1]
     have:=hnewloc id' b' g4 g3 (by rw [← g5];exact hly)
     omega
   ·rw [hold i h1,hheap _ hb] at hcc;exact ho.free c e fz hcc
  ·have hlb:K8 b=true:=by rw [← h5];exact hl
   have ho:=hst.rm.own id b (by rw [hst.lim];exact h4) h3 hlb
   have hn:=hnewloc id b h4 h3 hlb
   refine⟨fun j y hj hy hly=>?_,fun c e fz hcc=>?_⟩
   ·rw [hnew k id h2]
    rcases hcase j y hy with⟨g1,g2⟩ | ⟨k',id',b',rfl,g2,g3,g4,g5,g6⟩
    ·rw [hold j g1]
     have:=R9 (hm.blk j y g2) hly
     omega
    ·rw [hnew k' id' g2]
     refine ho.alone id' b' (fun e=>hj ?_) g3 (by rw [← g5];exact hly)
     subst e
     have hnd:co.ids.Nodup:=by rw [hids];exact hg2
     have:k'=k:=(List.getElem?_inj (List.getElem?_eq_some_iff.1 g2).1 hnd).1 (g2.trans h2.symm)
     rw [this]
   ·rw [hnew k id h2] at hcc;exact ho.free c e fz hcc
 ·rintro b ⟨i,x,hi,hx,hl,rfl⟩
  rw [k3] at hi
  rcases hcase i x hx with⟨h1,h2⟩ | ⟨k,id,bb,rfl,h2,h3,h4,h5,h6⟩
  ·rw [hold i h1];exact .inl ⟨i,x,hi,h2,hl,rfl⟩
  ·rw [hnew k id h2];exact .inr (hnewloc id bb h4 h3 (by rw [← h5];exact hl))
end
section
variable {P:Program}
structure Sum where
 f:FuncId
 args:List j3
 bs:List NB
 a:Ans
noncomputable def sumOf (l:List Sum)(f:FuncId)(args:List j3)(bs:List NB):Option Ans:=
 List.rec none (fun s _ ih=>bi (Nat.beq s.f f) (bi (El (jW 100) s.args args) (bi (fQ s.bs bs) (some s.a) ih) ih) ih) l
theorem nY {G:Mem}:∀(l:List Sum),(∀s∈l,gG P G s.f s.args s.bs s.a)→∀f args bs a,sumOf l f args bs=some a→gG P G f args bs a
 | [],_,f,args,bs,a,h=>by cases h
 | s::l,hl,f,args,bs,a,h=>by
  have ih:=nY l (fun s hs=>hl s (by simp [hs])) f args bs a
  have h:bi (Nat.beq s.f f) (bi (El (jW 100) s.args args) (bi (fQ s.bs bs) (some s.a) (sumOf l f args bs)) (sumOf l f args bs)) (sumOf l f args bs)=some a:=h
  cases h1:Nat.beq s.f f with
  | false=>rw [h1] at h;exact ih h
  | true=>
   rw [h1] at h
   cases h2:El (jW 100) s.args args with
   | false=>rw [h2] at h;exact ih h
   | true=>
    rw [h2] at h
    cases h3:fQ s.bs bs with
    | false=>rw [h3] at h;exact ih h
    | true=>
     rw [h3] at h
     have h:some s.a=some a:=h
     cases h
     rw [← Nat.eq_of_beq_eq_true h1,← eH (bC 100) _ _ h2,← iy _ _ h3]
     exact hl s (by simp)
structure KOk (P:Program)(K:Known):Prop where
 mix:P.follows .mixedOrders=true
 fns:∀f sf,K.fns f=some sf→uK P f sf
 base:∃gbs,Cb K.base gbs
 sum:∀f args bs a,K.sum f args bs=some a→gG P K.base f args bs a
 eff:∀{f:FuncId} {args:List j3} {m:Mem} {outs:List VM},K.eff f args m=some outs→Dm P f∧∀{ι:Inj} {w:World},RM P K.base ι m w.heap→ltL (m.nm ι) args→
  CallsIn Fence.wide 0 P f (l8 ι args).toArray w (F9 P K.base ι m w outs)
theorem kQ (K:Known)(fuel:Nat)(fn:Fn)(args:List j3)(m:Mem):w9 K fuel 0 fn args m=none:=rfl
theorem U3 (K:Known)(fuel n:Nat)(fn:Fn)(args:List j3)(m:Mem):w9 K fuel (n+1) fn args m=match fn with
  | .func f=>Option.rec (ob (K.fns f) fun sf=>bi sf.pure (bH K (w9 K fuel n) fuel f sf args m) (D6 (w9 K fuel n) (qE K (w9 K fuel n) fuel) fuel sf args m)) (fun l=>some l) (K.eff f args m)
  | .yield l=>zQ (w9 K fuel n) fuel l args m
  | _=>none:=rfl
theorem Cc {K:Known}(hK:KOk P K){cf:y8}(hcf:qj P K.base cf){fuel:Nat}{f:FuncId}{sf:SFn}(hf:uK P f sf){args:List j3}{bs:List NB}{a:Ans}(h:xE K cf fuel f sf args bs=some a):gG P K.base f args bs a:=by
 unfold xE at h
 cases hs:K.sum f args bs with
 | some b=>
  rw [hs] at h
  have h:some b=some a:=h
  cases h
  exact hK.sum f args bs _ hs
 | none=>rw [hs] at h;exact DR hcf (yP hK.fns hcf fuel fun slots nt r=>gD hK.mix hcf slots nt r) hK.mix fuel hf h
theorem rZ {K:Known}(hK:KOk P K)(fuel:Nat):∀n,qj P K.base (w9 K fuel n):=by
 intro n
 induction n with
 | zero=>exact⟨(fun h=>by rw [kQ] at h;cases h),(fun h=>by rw [kQ] at h;cases h),(fun h=>by rw [kQ] at h;cases h)⟩
 | succ n ih=>
  refine⟨fun {f args m outs} h=>?_,fun {l args m outs} h {ι w} hm hargs=>?_,fun {fn args m outs} h=>?_⟩
  ·rw [U3] at h
   have h:(Option.rec (ob (K.fns f) fun sf=>bi sf.pure (bH K (w9 K fuel n) fuel f sf args m) (D6 (w9 K fuel n) (qE K (w9 K fuel n) fuel) fuel sf args m)) (fun l=>some l) (K.eff f args m):iR)=some outs:=h
   cases he:K.eff f args m with
   | some l=>
    rw [he] at h
    have h:some l=some outs:=h
    cases h
    exact hK.eff he
   | none=>
   rw [he] at h
   have h:(ob (K.fns f) fun sf=>bi sf.pure (bH K (w9 K fuel n) fuel f sf args m) (D6 (w9 K fuel n) (qE K (w9 K fuel n) fuel) fuel sf args m))=some outs:=h
   obtain⟨sf,h1,h⟩:=r9 h
   have hf:=hK.fns f sf h1
   refine⟨hf.ok,fun {ι w} hm hargs=>?_⟩
   cases hp:sf.pure with
   | false=>
    rw [hp] at h
    exact BP ih (yP hK.fns ih fuel fun slots nt r=>gD hK.mix ih slots nt r) fuel (fun slots nt r=>gD hK.mix ih slots nt r) hf h hm hargs
   | true=>
    rw [hp] at h
    have h:bH K (w9 K fuel n) fuel f sf args m=some outs:=h
    obtain⟨c,h2,h⟩:=r9 h
    obtain⟨a,h3,h⟩:=r9 h
    obtain⟨v,h4,h⟩:=r9 h
    obtain⟨bs,h5,h⟩:=r9 h
    cases h
    exact AB hK.base hm hargs h2 (Cc hK ih hf h3) h4 h5
  ·rw [U3] at h
   exact Aq ih fuel (fun slots nt r=>gD hK.mix ih slots nt r) h hm hargs
  ·rw [U3] at h
   cases fn with
   | func f=>exact .inl ⟨f,rfl⟩
   | yield l=>exact .inr ⟨l,rfl⟩
   | _=>cases h
theorem DU {K:Known}(hK:KOk P K){fuel n:Nat}{f:FuncId}{sf:SFn}(hf:uK P f sf){args:List j3}{bs:List NB}{a:Ans}(h:xE K (w9 K fuel n) fuel f sf args bs=some a):gG P K.base f args bs a:=
 Cc hK (rZ hK fuel n) hf h
end
noncomputable def NG (pure rc:Bool)(a:AFn):SFn:=⟨pure,a.args,a.nslots,a.results,trC a.body,bif rc then some a.body else none⟩
theorem Gl {P:Program}{slots:List Nat}{f:FuncId}{a:AFn}(h:cFn P slots f=some a)(pure rc:Bool):uK P f (NG pure rc a):=by
 unfold cFn at h
 split at h
 ·cases h
 ·rename_i fn hfn
  split at h
  ·cases h
  ·rename_i c hc
   split at h
   ·rename_i b r hb hr
    split at h
    ·rename_i hok
     cases h
     simp only [Bool.and_eq_true,bne_iff_ne,ne_eq] at hok
     obtain⟨⟨⟨h1,h2⟩,h3⟩,h4⟩:=hok
     refine⟨⟨fn,hfn,by rw [hc];rfl,h4⟩,slots,fn,c,b,r,hfn,hc,hb,hr,h1,fun t ht=>?_,?_,rfl,rfl,rfl,rfl,fun c' hc'=>?_⟩
     ·exact Eq.mp Nat.blt_eq (List.all_eq_true.1 h2 t ht)
     ·have:slots.length<1152921504606846976:=Eq.mp Nat.blt_eq h3
      exact this
     ·cases rc with
      | true=>exact (Option.some.inj hc').symm
      | false=>cases hc'
    ·cases h
   ·cases h
theorem Gm {P:Program}{slots:List Nat}{f:FuncId}{pure rc:Bool}{sf:SFn}(h:(cFn P slots f).map (NG pure rc)=some sf):uK P f sf:=by
 cases hc:cFn P slots f with
 | none=>rw [hc] at h;cases h
 | some a=>rw [hc] at h;cases h;exact Gl hc pure rc
end Go.AM
namespace Go.AM
open Go
noncomputable section
def TOk (P:Program)(r:Nat→Nat)(t:T (Option SFn)):Prop:=∀i sf,t.get i=some (some sf)→uK P (r i) sf
theorem ae5 {P:Program}{r:Nat→Nat}:TOk P r .e:=fun i sf h=>by cases h
def OOk (P:Program)(i:Nat)(o:Option SFn):Prop:=∀sf,o=some sf→uK P i sf
theorem ae6 {P:Program}{i:Nat}:OOk P i none:=fun _ h=>by cases h
theorem ae7 {P:Program}{i:Nat}{sf:SFn}(h:uK P i sf):OOk P i (some sf):=fun _ e=>by cases e;exact h
theorem ad2 {P:Program}{r:Nat→Nat}{a b:T (Option SFn)}{x:Option SFn}(ha:TOk P (fun i=>r (2*i+1)) a)(hx:OOk P (r 0) x)(hb:TOk P (fun i=>r (2*i+2)) b):TOk P r (.nd a x b):=by
 intro i sf h
 cases i with
 | zero=>exact hx sf (Option.some.inj h)
 | succ j=>
  have h:(Nat.rec (a.get (Nat.div j 2)) (fun _ _=>b.get (Nat.div j 2)) (Nat.mod j 2):Option (Option SFn))=some (some sf):=h
  rcases Nat.mod_two_eq_zero_or_one j with h2 | h2
  ·have h2':Nat.mod j 2=0:=h2
   rw [h2'] at h
   have:=ha _ sf h
   have e:2*Nat.div j 2+1=j+1:=by
    have:Nat.div j 2=j / 2:=rfl
    omega
   have this:uK P (r (2*Nat.div j 2+1)) sf:=this
   rw [e] at this
   exact this
  ·have h2':Nat.mod j 2=1:=h2
   rw [h2'] at h
   have:=hb _ sf h
   have e:2*Nat.div j 2+2=j+1:=by
    have:Nat.div j 2=j / 2:=rfl
    omega
   have this:uK P (r (2*Nat.div j 2+2)) sf:=this
   rw [e] at this
   exact this
theorem Jm {P:Program}{t:T (Option SFn)}(h:TOk P (fun i=>i) t):∀f sf,ob (t.get f) (fun x=>x)=some sf→uK P f sf:=by
 intro f sf hf
 obtain⟨x,h1,h2⟩:=r9 hf
 have h2:x=some sf:=h2
 rw [h2] at h1
 exact h f sf h1
section
variable {α β γ:Type}
@[simp] theorem TI (a:α)(f:α→Option (List β)):bnd (some [a]) f=f a:=_root_.id rfl
@[simp] theorem ad3 (f:α→Option (List β)):bnd (none:Option (List α)) f=none:=_root_.id rfl
@[simp] theorem RJ (a:α)(f:α→Option β):KS (some [a]) f=f a:=_root_.id rfl
@[simp] theorem LG (a:α)(z:β)(f:α→β):(Option.rec z (fun v=>f v) (some a):β)=f a:=_root_.id rfl
@[simp] theorem LH (z:β)(f:α→β):(Option.rec z (fun v=>f v) none:β)=z:=_root_.id rfl
end
section
variable (k:IntKind)(b:Bool)(n:Int)(s:List UInt8)(i o l c:Nat)(v:j3)(as bs:List j3)(fn:Fn){β:Type}
@[simp] theorem OT (p:j3→β)(q:β):fM (.bool b) p q=q:=_root_.id rfl
@[simp] theorem RL (p:j3→β)(q:β):fM (.int k n) p q=q:=_root_.id rfl
@[simp] theorem RN (p:j3→β)(q:β):fM (.str s) p q=q:=_root_.id rfl
@[simp] theorem LJ (p:j3→β)(q:β):fM .nilPtr p q=q:=_root_.id rfl
@[simp] theorem RO (p:j3→β)(q:β):fM (.ptr i o) p q=q:=_root_.id rfl
@[simp] theorem Jo (p:j3→β)(q:β):fM .nilSlice p q=q:=_root_.id rfl
@[simp] theorem NH (p:j3→β)(q:β):fM (.slice i o l c) p q=q:=_root_.id rfl
@[simp] theorem LK (p:j3→β)(q:β):fM (.sliceU i o l c) p q=q:=_root_.id rfl
@[simp] theorem LM (p:j3→β)(q:β):fM .nilMap p q=q:=_root_.id rfl
@[simp] theorem RP (p:j3→β)(q:β):fM (.map i) p q=q:=_root_.id rfl
@[simp] theorem Kr (p:j3→β)(q:β):fM .nilFunc p q=q:=_root_.id rfl
@[simp] theorem OU (p:j3→β)(q:β):fM (.func fn as bs) p q=q:=_root_.id rfl
@[simp] theorem Jp (p:j3→β)(q:β):fM .nilIface p q=q:=_root_.id rfl
@[simp] theorem NI (p:j3→β)(q:β):fM (.iface i v) p q=q:=_root_.id rfl
@[simp] theorem RQ (p:j3→β)(q:β):fM (.agg as) p q=q:=_root_.id rfl
@[simp] theorem NJ (p:j3→β)(q:β):fM (.tuple as) p q=q:=_root_.id rfl
@[simp] theorem NK (p:j3→β)(q:β):fM .undef p q=q:=_root_.id rfl
@[simp] theorem RS (p:j3→β)(q:β):fM (.pan v) p q=p v:=_root_.id rfl
end
@[simp] theorem ad4 (x:j3)(ls:List j3)(env:T j3):oL0 (x::ls) env=x:=_root_.id rfl
@[simp] theorem ad5 (a x:j3)(ls:List j3)(env:T j3):oL1 (a::x::ls) env=x:=_root_.id rfl
@[simp] theorem ad6 (a b x:j3)(ls:List j3)(env:T j3):oL2 (a::b::x::ls) env=x:=_root_.id rfl
@[simp] theorem ad7 (a b c x:j3)(ls:List j3)(env:T j3):oL3 (a::b::c::x::ls) env=x:=_root_.id rfl
@[simp] theorem TJ (k:Nat)(ls:List j3)(env:T j3):dB k ls env=ls[k]?.getD .undef:=Ki k ls
@[simp] theorem TK (v:j3)(ls:List j3)(env:T j3):x9 v ls env=v:=_root_.id rfl
@[simp] theorem RU (g:T j3→j3)(ls:List j3)(env:T j3):D5 g ls env=g env:=_root_.id rfl
@[simp] theorem ae8 (l r:T j3)(x:j3):gH (.nd l x r)=x:=_root_.id rfl
@[simp] theorem ae9 (g:T j3→j3)(l r:T j3)(x:j3):gL g (.nd l x r)=g l:=_root_.id rfl
@[simp] theorem aea (g:T j3→j3)(l r:T j3)(x:j3):gR g (.nd l x r)=g r:=_root_.id rfl
@[simp] theorem aeb (v:j3)(l r:T j3)(x:j3):sH v (.nd l x r)=.nd l v r:=_root_.id rfl
@[simp] theorem aec (s:j3→T j3→T j3)(v:j3)(l r:T j3)(x:j3):sL s v (.nd l x r)=.nd (s v l) x r:=_root_.id rfl
@[simp] theorem aed (s:j3→T j3→T j3)(v:j3)(l r:T j3)(x:j3):sR s v (.nd l x r)=.nd l x (s v r):=_root_.id rfl
@[simp] theorem ad8 (v:j3)(t:T j3):sNo v t=t:=_root_.id rfl
@[simp] theorem TL (ls:List j3)(env:T j3):evs [] ls env=[]:=_root_.id rfl
@[simp] theorem RV (x:OF)(l:List OF)(ls:List j3)(env:T j3):evs (x::l) ls env=x ls env::evs l ls env:=_root_.id rfl
section
variable {β:Type}(ls:List j3)(env:T j3)(m:Mem)
@[simp] theorem TM (x:OF):J6 x ls env=some (x ls env):=_root_.id rfl
@[simp] theorem RX (c a b:OF):Z8 c a b ls env=kV (c ls env) fun t=>some (bi t (a ls env) (b ls env)):=_root_.id rfl
@[simp] theorem RY (b:Bool)(k:Bool→Option β):kV (.bool b) k=k b:=_root_.id rfl
@[simp] theorem TN (k:IntKind)(n:Int)(f:IntKind→Int→Option β):vB (.int k n) f=f k n:=_root_.id rfl
@[simp] theorem wL (s:List UInt8)(f:List UInt8→Option β):pO (.str s) f=f s:=_root_.id rfl
@[simp] theorem Gn (i o:Nat)(f:Nat→Nat→Option β):iP (.ptr i o) f=f i o:=_root_.id rfl
@[simp] theorem TP (l:List j3)(f:List j3→Option β):zM (.agg l) f=f l:=_root_.id rfl
@[simp] theorem TQ (l:List j3)(f:List j3→Option β):JR (.tuple l) f=f l:=_root_.id rfl
@[simp] theorem TR (i:Nat)(z:Option β)(f:Nat→Option β):zH (.map i) z f=f i:=_root_.id rfl
@[simp] theorem RZ (z:Option β)(f:Nat→Option β):zH .nilMap z f=z:=_root_.id rfl
@[simp] theorem TS (z:Option β)(f g:Nat→Nat→Nat→Nat→Option β):vSl .nilSlice z f g=z:=_root_.id rfl
@[simp] theorem sj (a b c d:Nat)(z:Option β)(f g:Nat→Nat→Nat→Nat→Option β):vSl (.slice a b c d) z f g=f a b c d:=_root_.id rfl
@[simp] theorem nZ (a b c d:Nat)(z:Option β)(f g:Nat→Nat→Nat→Nat→Option β):vSl (.sliceU a b c d) z f g=g a b c d:=_root_.id rfl
@[simp] theorem TU (fn:Fn)(a b:List j3)(f:Fn→List j3→List j3→Option β):JU (.func fn a b) f=f fn a b:=_root_.id rfl
@[simp] theorem mH (n:Nat)(k:Nat→Option β):JV (n:Int) k=k n:=_root_.id rfl
@[simp] theorem NM (n:Nat)(k:Nat→Option β):JV (.ofNat n) k=k n:=_root_.id rfl
@[simp] theorem OV (k:Nat→Option β):JV 0 k=k 0:=_root_.id rfl
@[simp] theorem Sb (k:Nat→Option β):JV 1 k=k 1:=_root_.id rfl
@[simp] theorem su (k:IntKind)(n:Int)(f:Nat→Option β):kU (.int k n) f=JV n f:=_root_.id rfl
@[simp] theorem Ce (k:IntKind):kEq k k=true:=by cases k<;>rfl
@[simp] theorem ad9 (f:IB)(g:SB)(x y:OF):pIb f g x y ls env=Eh f g (x ls env) (y ls env):=_root_.id rfl
@[simp] theorem Sc (f:IB)(g:SB)(k:IntKind)(a b:Int):Eh f g (.int k a) (.int k b)=f k a b:=by
 show bi (kEq k k) (f k a b) none=_
 rw [Ce];rfl
@[simp] theorem Sd (f:IB)(g:SB)(a b:List UInt8):Eh f g (.str a) (.str b)=g a b:=_root_.id rfl
@[simp] theorem TV (x y:OF):Tp x y ls env=Rt (x ls env) (y ls env):=_root_.id rfl
@[simp] theorem TW (x y:OF):Nw x y ls env=Ru (x ls env) (y ls env):=_root_.id rfl
@[simp] theorem TY (a b:Int):fH .i64 a b=some (.int .i64 (w64 (a+b))):=_root_.id rfl
@[simp] theorem Ua (a b:Int):xg .i64 a b=some (.int .i64 (w64 (a-b))):=_root_.id rfl
@[simp] theorem Ub (a b:Int):Ig .i64 a b=some (.int .i64 (w64 (a*b))):=_root_.id rfl
@[simp] theorem ada (k:IntKind)(a b:Int):iEq k a b=some (.bool (decide (a=b))):=by
 show some (j3.bool (aG a b))=_
 rw [bI,show (a==b)=decide (a=b) from rfl]
@[simp] theorem adb (k:IntKind)(a b:Int):iNe k a b=some (.bool (!decide (a=b))):=by
 show some (j3.bool (!aG a b))=_
 rw [bI,show (a==b)=decide (a=b) from rfl]
@[simp] theorem ade (k:IntKind)(a b:Int):iLt k a b=some (.bool (decide (a<b))):=by rw [← bJ];rfl
@[simp] theorem adf (k:IntKind)(a b:Int):iLe k a b=some (.bool (decide (a≤b))):=by
 show some (j3.bool (!kW b a))=_
 rw [bJ,show (!decide (b<a))=decide (a≤b) from by rw [Bool.eq_iff_iff];simp]
@[simp] theorem adg (k:IntKind)(a b:Int):iGt k a b=some (.bool (decide (b<a))):=by rw [← bJ];rfl
@[simp] theorem adh (k:IntKind)(a b:Int):iGe k a b=some (.bool (decide (b≤a))):=by
 show some (j3.bool (!kW a b))=_
 rw [bJ,show (!decide (a<b))=decide (b≤a) from by rw [Bool.eq_iff_iff];simp]
theorem kF {n:Int}(h:-9223372036854775808≤n)(h':n<9223372036854775808):w64 n=n:=by
 cases n with
 | ofNat m=>
  show bi (Nat.blt m 9223372036854775808) _ _=_
  rw [show Nat.blt m 9223372036854775808=true from Nat.blt_eq.mpr (by simp at h';omega)];rfl
 | negSucc m=>
  show bi (Nat.blt m 9223372036854775808) _ _=_
  rw [show Nat.blt m 9223372036854775808=true from Nat.blt_eq.mpr (by omega)];rfl
@[simp] theorem adi (f:EqF)(x y:OF):pEq f x y ls env=ob (f (x ls env) (y ls env)) fun b=>some (.bool b):=_root_.id rfl
@[simp] theorem adj (f:EqF)(x y:OF):pNe f x y ls env=ob (f (x ls env) (y ls env)) fun b=>some (.bool (!b)):=_root_.id rfl
@[simp] theorem Uc (x:OF):JX x ls env=kV (x ls env) fun b=>some (.bool (!b)):=_root_.id rfl
@[simp] theorem Ud (x:OF):Tq x ls env=vB (x ls env) fun k n=>some (vC k (· ^^^ ·) (bi k.signed (-1) k.max) n):=_root_.id rfl
@[simp] theorem Ue (x:OF):KM x ls env=vB (x ls env) fun k n=>some (.int k (pQ k (0-n))):=_root_.id rfl
@[simp] theorem Sg (k:IntKind)(x:OF):kI k x ls env=vB (x ls env) fun _ n=>some (.int k (pQ k n)):=_root_.id rfl
@[simp] theorem OW (t:TypeId)(x:OF):oD t x ls env=some (.iface t (x ls env)):=_root_.id rfl
@[simp] theorem Si (fn:Fn)(a b:List OF):sZ fn a b ls env=some (.func fn (evs a ls env) (evs b ls env)):=_root_.id rfl
@[simp] theorem Ku (x:OF):O7 x ls env=tV (x ls env):=_root_.id rfl
@[simp] theorem NN (i o:Nat):tV (.ptr i o)=some (.ptr i o):=_root_.id rfl
@[simp] theorem LP (f:FuncId)(a b:List j3):tV (.func (.func f) a b)=some (.func (.func f) a b):=_root_.id rfl
@[simp] theorem OX (o:Nat)(x:OF):D8 o x ls env=iP (x ls env) fun id off=>some (.ptr id (off+o)):=_root_.id rfl
@[simp] theorem Sj (off:Nat)(x:OF):KN off x ls env=zM (x ls env) fun cs=>cs[off]?:=by
 show zM (x ls env) (fun cs=>sW off cs)=_
 simp
@[simp] theorem Sk (off k:Nat)(x:OF):KO off k x ls env=zM (x ls env) fun cs=>ob (takeN k (cs.drop off)) fun l=>some (.agg l):=by
 show zM (x ls env) (fun cs=>ob (takeN k (fJ off cs)) fun l=>some (j3.agg l))=_
 simp
@[simp] theorem NP {α:Type}(l:List α):takeN 0 l=some []:=_root_.id rfl
@[simp] theorem NQ {α:Type}(n:Nat)(x:α)(l:List α):takeN (n+1) (x::l)=ob (takeN n l) fun r=>some (x::r):=_root_.id rfl
@[simp] theorem Uf (x:OF)(i:Nat):pExt x i ls env=JR (x ls env) fun l=>l[i]?:=by
 show JR (x ls env) (fun l=>sW i l)=_
 simp
@[simp] theorem Ug (x:OF):Ei x ls env=vSl (x ls env) (some (.int .i64 0)) (fun _ _ n _=>some (.int .i64 n)) (fun _ _ n _=>some (.int .i64 n)):=_root_.id rfl
@[simp] theorem Sl (x:OF):tq x ls env=pO (x ls env) fun s=>some (.int .i64 s.length):=by
 show pO (x ls env) (fun s=>some (j3.int .i64 (.ofNat (len' s))))=_
 simp
@[simp] theorem Uh (x:OF):Tt x ls env=vSl (x ls env) (some (.int .i64 0)) (fun _ _ _ c=>some (.int .i64 c)) (fun _ _ _ _=>none):=_root_.id rfl
theorem oh (len i:Nat)(k:Nat→Option β)(h:i<len):idx len (.int .i64 i) k=k i:=by
 show bi (Nat.blt i len) (k i) none=_
 rw [show Nat.blt i len=true from Nat.blt_eq.mpr h];rfl
@[simp] theorem OY (es:Nat)(x i:OF):G8 es x i ls env=vSl (x ls env) none (fun id off len _=>idx len (i ls env) fun k=>some (.ptr id (off+k*es)))
  (fun id off len _=>idx len (i ls env) fun k=>some (.ptr id (off+k*es))):=rfl
@[simp] theorem Kv (es n:Nat)(x i:OF):kX es n x i ls env=iP (x ls env) fun id off=>idx n (i ls env) fun k=>some (.ptr id (off+k*es)):=_root_.id rfl
@[simp] theorem Ui (cs:List j3):lay [] ls env cs=some cs:=_root_.id rfl
theorem Jq (p:Nat×Nat×OF)(l:List (Nat×Nat×OF))(cs:List j3):lay (p::l) ls env cs =
  bi (Nat.beq (len' (p.2.2 ls env).cells) p.2.1) (bi (Nat.ble (Nat.add p.1 p.2.1) (len' cs)) (lay l ls env (iO p.1 (p.2.2 ls env).cells cs)) none) none:=rfl
@[simp] theorem OZ (z:List j3)(ps:List (Nat×Nat×OF)):E9 z ps ls env=ob (lay ps ls env z) fun l=>some (.agg l):=_root_.id rfl
def ld1 (b:Option Blk)(off:Nat):Option j3:=K5 b fun rs n rows=>cell1 rs n rows off
def ldN (b:Option Blk)(off k:Nat):Option j3:=K5 b fun rs n rows=>ob (eT rs n rows off k) fun l=>some (.agg l)
def stB (b:Option Blk)(off:Nat)(vs:List j3):Option Blk:=K5 b fun rs n rows=>ob (L6 rs n rows off vs) fun rows'=>some (.cells rs n rows')
@[simp] theorem Pb (a:OF):iF a ls env m=iP (a ls env) fun id off=>ld1 (m.get id) off:=_root_.id rfl
@[simp] theorem Pd (k:Nat)(a:OF):I5 k a ls env m=iP (a ls env) fun id off=>ldN (m.get id) off k:=_root_.id rfl
@[simp] theorem eO (rs n:Nat)(rows:T (List j3))(k:Nat→Nat→T (List j3)→Option β):K5 (some (.cells rs n rows)) k=k rs n rows:=_root_.id rfl
@[simp] theorem adk (es:List (j3×j3))(k:List (j3×j3)→Option β):vEs (some (.map es)) k=k es:=_root_.id rfl
theorem mJ {rs n:Nat}{rows:T (List j3)}{i j:Nat}{row:List j3}(hj:j<rs)(hi:i<n)(h:rows.get i=some row):cell1 rs n rows (i*rs+j)=row[j]?:=by
 unfold cell1
 have h1:Nat.div (i*rs+j) rs=i:=by show (i*rs+j) / rs=i;rw [Nat.mul_comm,Nat.mul_add_div (by omega),Nat.div_eq_of_lt hj];rfl
 have h2:Nat.mod (i*rs+j) rs=j:=by show (i*rs+j)%rs=j;rw [Nat.mul_comm,Nat.mul_add_mod,Nat.mod_eq_of_lt hj]
 rw [h1,h2,h,show Nat.blt i n=true from Nat.blt_eq.mpr hi]
 exact cZ _ _
theorem om {rs n:Nat}{rows:T (List j3)}{i j k:Nat}{row:List j3}(hj:j<rs)(hi:i<n)(h:rows.get i=some row)(hl:row.length=rs)(hk:j+k≤rs):
  eT rs n rows (i*rs+j) k=some ((row.drop j).take k):=by
 unfold eT
 have h1:Nat.div (i*rs+j) rs=i:=by show (i*rs+j) / rs=i;rw [Nat.mul_comm,Nat.mul_add_div (by omega),Nat.div_eq_of_lt hj];rfl
 have h2:Nat.mod (i*rs+j) rs=j:=by show (i*rs+j)%rs=j;rw [Nat.mul_comm,Nat.mul_add_mod,Nat.mod_eq_of_lt hj]
 rw [h1,h2,h,show Nat.blt i n=true from Nat.blt_eq.mpr hi]
 simp only [H9,G5,aJ]
 cases hz:Nat.beq j 0 with
 | false=>simp only [J8];exact aB _ _ (by simp;omega)
 | true=>
  have hz:=Nat.eq_of_beq_eq_true hz
  subst hz
  simp only [H9]
  cases hk':Nat.beq k rs with
  | true=>have hk':=Nat.eq_of_beq_eq_true hk';subst hk';simp [hl.symm]
  | false=>simp only [J8,List.drop_zero];exact aB _ _ (by omega)
end
theorem div_lt {a b:Nat}(h:a<b):Nat.div a b=0:=Nat.div_eq_of_lt h
theorem mod_lt {a b:Nat}(h:a<b):Nat.mod a b=a:=Nat.mod_eq_of_lt h
@[simp] theorem Sn (cs:List j3)(off:Nat):ld1 (some (Q9 cs)) off=cs[off]?:=by
 show cell1 (len' cs) 1 (.nd .e cs .e) off=_
 rw [C8]
 unfold cell1
 by_cases h:off<cs.length
 ·rw [div_lt h,mod_lt h]
  exact cZ _ _
 ·rw [show cs[off]?=none from by simp;omega]
  by_cases h0:cs.length=0
  ·rw [h0,show Nat.div off 0=0 from Nat.div_zero off,show Nat.mod off 0=off from Nat.mod_zero off]
   show sW off cs=none
   rw [cZ];simp;omega
  ·have:1≤Nat.div off cs.length:=(Nat.one_le_div_iff (by omega)).2 (by omega)
   rw [show Nat.blt (Nat.div off cs.length) 1=false from by
    cases hb:Nat.blt (Nat.div off cs.length) 1 with
    | false=>rfl
    | true=>have:=Nat.blt_eq.mp hb;omega]
theorem S9 {cs:List j3}{off k:Nat}(h:off+k≤cs.length)(h0:off<cs.length):ldN (some (Q9 cs)) off k=some (.agg ((cs.drop off).take k)):=by
 show ob (eT (len' cs) 1 (.nd .e cs .e) off k) (fun l=>some (j3.agg l))=_
 have:=om (rs:=cs.length) (n:=1) (rows:=.nd .e cs .e) (i:=0) (j:=off) (k:=k) (row:=cs) h0 (by omega) rfl rfl h
 rw [Nat.zero_mul,Nat.zero_add] at this
 rw [C8,this];rfl
theorem P8 {cs vs:List j3}{off:Nat}(h:off+vs.length≤cs.length)(h0:off<cs.length):stB (some (Q9 cs)) off vs=some (Q9 (cs.take off++(vs++cs.drop (off+vs.length)))):=by
 show ob (L6 (len' cs) 1 (.nd .e cs .e) off vs) (fun rows'=>some (Blk.cells (len' cs) 1 rows'))=_
 have h1:Nat.ble (Nat.add off vs.length) cs.length=true:=Nat.ble_eq_true_of_le h
 have h2:L6 cs.length 1 (.nd .e cs .e) off vs=some (T.nd .e (iO off vs cs) .e):=by
  unfold L6
  rw [div_lt h0,mod_lt h0,C8]
  show bi (Nat.ble (Nat.add off vs.length) cs.length) (some (T.nd .e (iO off vs cs) .e)) none=_
  rw [h1];rfl
 rw [C8,h2,eZ off vs cs (by omega)]
 show some (Blk.cells cs.length 1 _)=some (Blk.cells (len' _) 1 _)
 rw [C8]
 congr 2
 simp
 omega
def Mem.Ok (m:Mem):Prop:=T.Ok m.t m.next
theorem Mem.Ok.new {m:Mem}(h:m.Ok)(b:Blk):(m.new b).Ok:=T.Ok.push h b
theorem Mem.Ok.set {m:Mem}(h:m.Ok){i:Nat}(hi:i<m.next)(b:Blk):(m.set i b).Ok:=T.Ok.put h i b hi
theorem pF {m:Mem}(h:m.Ok)(b:Blk){i:Nat}(hi:i=m.next):(m.new b).get i=some b:=by rw [Mem.D7 h,if_pos hi]
theorem jR {m:Mem}(h:m.Ok)(b:Blk){i:Nat}(hi:i≠m.next):(m.new b).get i=m.get i:=by rw [Mem.D7 h,if_neg hi]
theorem bX {m:Mem}(h:m.Ok)(b:Blk){i j:Nat}(hj:j<m.next)(hi:i=j):(m.set j b).get i=some b:=by rw [Mem.K4 h hj,if_pos hi]
theorem jS {m:Mem}(h:m.Ok)(b:Blk){i j:Nat}(hj:j<m.next)(hi:i≠j):(m.set j b).get i=m.get i:=by rw [Mem.K4 h hj,if_neg hi]
theorem dN {β:Type}{m:Mem}{id off:Nat}{vs:List j3}{k:Mem→Option β}(hl:m.lim≤id)(h1:G7 vs=true):storeAt m id off vs k=ob (stB (m.get id) off vs) fun b=>k (m.set id b):=by
 unfold storeAt
 rw [show Nat.blt id m.lim=false from by
  cases hb:Nat.blt id m.lim with
  | false=>rfl
  | true=>have:=Nat.blt_eq.mp hb;omega,h1]
 simp only [J8,H9]
 unfold stB
 match m.get id with
 | some (.cells rs n rows)=>
  show ob (L6 rs n rows off vs) _=ob (ob (L6 rs n rows off vs) _) _
  cases L6 rs n rows off vs<;>rfl
 | some .void | some .dead | some (.map _) | some (.iter ..) | some (.tail _) | some (.loop ..) | some .deferred | some (.siter ..) | some (.buf ..) | some (.mapU _) | none=>rfl
theorem Gp (sz:Nat)(a x:OF)(cf:y8)(ls:List j3)(env:T j3)(m:Mem):C9 sz a x cf ls env m=iP (a ls env) fun id off=>
  bi (Nat.beq (x ls env).cells.length sz) (storeAt m id off (x ls env).cells fun m'=>some [⟨.undef,m'⟩]) none:=by
 show iP (a ls env) (fun id off=>bi (Nat.beq (len' (x ls env).cells) sz) (storeAt m id off (x ls env).cells fun m'=>one .undef m') none)=_
 simp only [C8];rfl
@[simp] theorem NR:G7 []=true:=_root_.id rfl
@[simp] theorem LQ (v:j3)(l:List j3):G7 (v::l)=bi (bM v) (G7 l) false:=_root_.id rfl
section
variable (cf:y8)(ls:List j3)(env:T j3)(m:Mem)(d:j3→T j3→T j3)(k:RC)
@[simp] theorem Sq:j6 cf ls env m=some [⟨env,m,none,[]⟩]:=_root_.id rfl
@[simp] theorem adl (f:PF):rcP f d k cf ls env m=ob (f ls env) fun v=>k cf (v::ls) (d v env) m:=_root_.id rfl
@[simp] theorem Uj (f:PF):j5 f k cf ls env m=ob (f ls env) fun v=>k cf (v::ls) env m:=_root_.id rfl
@[simp] theorem adn (f:RF):rcR f d k cf ls env m=ob (f ls env m) fun v=>k cf (v::ls) (d v env) m:=_root_.id rfl
@[simp] theorem Uk (f:RF):A9 f k cf ls env m=ob (f ls env m) fun v=>k cf (v::ls) env m:=_root_.id rfl
@[simp] theorem Pe:iM m none=m:=_root_.id rfl
@[simp] theorem Pf (b:Blk):iM m (some b)=m.new b:=_root_.id rfl
@[simp] theorem ado (f:LF):rcL f d k cf ls env m=ob (f ls env m.next) fun r=>k cf (r.1::ls) (d r.1 env) (iM m r.2):=_root_.id rfl
@[simp] theorem Ul (f:LF):eX f k cf ls env m=ob (f ls env m.next) fun r=>k cf (r.1::ls) env (iM m r.2):=_root_.id rfl
@[simp] theorem Pg (f:EF):rcE f d k cf ls env m=bnd (f cf ls env m) fun r=>fM r.v (fun x=>some [⟨env,r.m,some x,[]⟩]) (k cf (r.v::ls) (d r.v env) r.m):=_root_.id rfl
@[simp] theorem AJ (f:EF):u6 f k cf ls env m=bnd (f cf ls env m) fun r=>fM r.v (fun x=>some [⟨env,r.m,some x,[]⟩]) (k cf (r.v::ls) env r.m):=_root_.id rfl
@[simp] theorem Ph (z:List j3)(i:Nat):bO z ls env i=some (.ptr i 0,some (Q9 z)):=_root_.id rfl
@[simp] theorem Um (x:OF)(i:Nat):Ny x ls env i=some (.ptr i 0,some (Q9 (x ls env).cells)):=_root_.id rfl
@[simp] theorem Pj (i:Nat):iQ ls env i=some (.map i,some (.map [])):=_root_.id rfl
@[simp] theorem Pk (l:List j3):(j3.agg l).cells=l:=_root_.id rfl
@[simp] theorem Pm (k:IntKind)(n:Int):(j3.int k n).cells=[.int k n]:=_root_.id rfl
@[simp] theorem NS (b:Bool):(j3.bool b).cells=[.bool b]:=_root_.id rfl
@[simp] theorem Pn (s:List UInt8):(j3.str s).cells=[.str s]:=_root_.id rfl
@[simp] theorem Po (i o:Nat):(j3.ptr i o).cells=[.ptr i o]:=_root_.id rfl
@[simp] theorem Pp (i:Nat):(j3.map i).cells=[.map i]:=_root_.id rfl
@[simp] theorem cells_func (f:Fn)(a b:List j3):(j3.func f a b).cells=[.func f a b]:=_root_.id rfl
@[simp] theorem LU (a b c d:Nat):(j3.slice a b c d).cells=[.slice a b c d]:=_root_.id rfl
@[simp] theorem Kw (a b c d:Nat):(j3.sliceU a b c d).cells=[.sliceU a b c d]:=_root_.id rfl
@[simp] theorem Ij:j3.nilSlice.cells=[.nilSlice]:=_root_.id rfl
@[simp] theorem Sr (f:FuncId)(as:List OF):o8 f as cf ls env m=cf (.func f) (evs as ls env) m:=_root_.id rfl
@[simp] theorem Pq (f:OF)(as:List OF):U1 f as cf ls env m=KQ cf m (evs as ls env) (f ls env):=_root_.id rfl
@[simp] theorem NT (as:List j3)(f:FuncId)(a b:List j3):KQ cf m as (.func (.func f) a b)=cf (.func f) (a++(as++b)) m:=by
 show cf (.func f) (dz a (dz as b)) m=_
 simp
end
@[simp] theorem Sv (b:Bool):isB true (.bool b)=b:=by cases b<;>rfl
@[simp] theorem Pt (b:Bool):isB false (.bool b)=!b:=by cases b<;>rfl
section
variable (w:Bool)(x:OF)(ls:List j3)(env:T j3)(m:Mem)
@[simp] theorem aee (f:PF):gP x w f ls env=bi (isB w (x ls env)) (f ls env) (some .undef):=_root_.id rfl
@[simp] theorem adp (f:RF):gRd x w f ls env m=bi (isB w (x ls env)) (f ls env m) (some .undef):=_root_.id rfl
@[simp] theorem adq (f:LF)(i:Nat):gLk x w f ls env i=bi (isB w (x ls env)) (f ls env i) (some (.undef,none)):=_root_.id rfl
@[simp] theorem aef (f:EF)(cf:y8):gE x w f cf ls env m=bi (isB w (x ls env)) (f cf ls env m) (some [⟨.undef,m⟩]):=_root_.id rfl
end
@[simp] theorem T.Sw {α:Type}(x:α)(t:T α)(i:Nat):T.rep x 0 t i=t:=_root_.id rfl
attribute [simp] T.vK T.I9 T.R7
section
variable (cf:y8)(fu:Nat)(ir:Option Nat)(env:T j3)(m:Mem)(k:List Mk)
@[simp] theorem Un (x:X9):qC x env m k=some [⟨x,env,m,k,none⟩]:=_root_.id rfl
@[simp] theorem Pv:l7 cf fu ir env m k=some [⟨.normal,env,m,k,none⟩]:=_root_.id rfl
@[simp] theorem qm (r:RC):j4 r cf fu ir env m k=bnd (r cf [] env m) (bQ k):=_root_.id rfl
@[simp] theorem Pw:bQ k ⟨env,m,none,[]⟩=some [⟨.normal,env,m,k,none⟩]:=_root_.id rfl
@[simp] theorem Px (n:Nat)(r:DC):K6 n r cf fu ir env m k=bnd (r cf m.next [] env (reserve n m) [reserve n m]) (bQ k):=_root_.id rfl
def Sy (b:SC)(cf:y8)(fu:Nat)(ir:Option Nat)(o:Out):Option (List Out):=X9.rec (b cf fu ir o.env o.m o.marks) (fun _=>some [o]) (some [o]) o.x
@[simp] theorem mK (a b:SC):d9 a b cf fu ir env m k=bnd (a cf fu ir env m k) (Sy b cf fu ir):=_root_.id rfl
@[simp] theorem LV (b:SC)(p:Option j3):Sy b cf fu ir ⟨.normal,env,m,k,p⟩=b cf fu ir env m k:=_root_.id rfl
@[simp] theorem Py (b:SC)(i:Nat)(p:Option j3):Sy b cf fu ir ⟨.exit i,env,m,k,p⟩=some [⟨.exit i,env,m,k,p⟩]:=_root_.id rfl
@[simp] theorem Sz (b:SC)(p:Option j3):Sy b cf fu ir ⟨.ret,env,m,k,p⟩=some [⟨.ret,env,m,k,p⟩]:=_root_.id rfl
@[simp] theorem Pz (c:OF)(a b:SC):l5 c a b cf fu ir env m k=kV (c [] env) fun t=>bi t (a cf fu ir env m k) (b cf fu ir env m k):=_root_.id rfl
def NU (id:Nat)(o:Out):Option (List Out):=X9.rec (some [o]) (fun id'=>bi (Nat.beq id id') (qC .normal o.env o.m o.marks) (some [o])) (some [o]) o.x
@[simp] theorem NV (id:Nat)(a:SC):o7 id a cf fu ir env m k=bnd (a cf fu ir env m k) (NU id):=_root_.id rfl
@[simp] theorem LW (id:Nat)(p:Option j3):NU id ⟨.normal,env,m,k,p⟩=some [⟨.normal,env,m,k,p⟩]:=_root_.id rfl
@[simp] theorem SA (id:Nat)(p:Option j3):NU id ⟨.ret,env,m,k,p⟩=some [⟨.ret,env,m,k,p⟩]:=_root_.id rfl
@[simp] theorem PD (id i:Nat)(p:Option j3):NU id ⟨.exit i,env,m,k,p⟩=bi (Nat.beq id i) (some [⟨.normal,env,m,k,none⟩]) (some [⟨.exit i,env,m,k,p⟩]):=_root_.id rfl
@[simp] theorem PE (a:SC):D9 a cf fu ir env m k=aD (fun env m k=>a cf fu ir env m k) fu env m k:=_root_.id rfl
def Jr (f:T j3→Mem→List Mk→Option (List Out))(o:Out):Option (List Out):=X9.rec (f o.env o.m o.marks) (fun _=>some [o]) (some [o]) o.x
theorem y7 (body:T j3→Mem→List Mk→Option (List Out))(n:Nat):aD body (n+1) env m k=bnd (body env m k) (Jr (aD body n)):=rfl
@[simp] theorem pG (f:T j3→Mem→List Mk→Option (List Out))(p:Option j3):Jr f ⟨.normal,env,m,k,p⟩=f env m k:=_root_.id rfl
@[simp] theorem NW (f:T j3→Mem→List Mk→Option (List Out))(i:Nat)(p:Option j3):Jr f ⟨.exit i,env,m,k,p⟩=some [⟨.exit i,env,m,k,p⟩]:=_root_.id rfl
@[simp] theorem PG (f:T j3→Mem→List Mk→Option (List Out))(p:Option j3):Jr f ⟨.ret,env,m,k,p⟩=some [⟨.ret,env,m,k,p⟩]:=_root_.id rfl
@[simp] theorem PI (id:Nat):lg id cf fu ir env m k=some [⟨.exit id,env,m,k,none⟩]:=_root_.id rfl
@[simp] theorem SE:o9 cf fu ir env m k=some [⟨.ret,env,m,k,none⟩]:=_root_.id rfl
end
section
variable (cf:y8)(b:Nat)(ls:List j3)(env:T j3)(m:Mem)(gs:List Mem)(d:j3→T j3→T j3)(k:DC)(c:Nat)
attribute [simp] yJ yK
@[simp] theorem SF:bP cf b ls env m gs=some [⟨env,m,none,[]⟩]:=_root_.id rfl
@[simp] theorem adr (f:PF):dcP f d k cf b ls env m gs=ob (f ls env) fun v=>k cf b (v::ls) (d v env) m gs:=_root_.id rfl
@[simp] theorem ads (f:RF):dcR f c d k cf b ls env m gs=ob (f ls env (hd m gs)) fun v=>bi (stable f ls env v c (tl gs)) (k cf b (v::ls) (d v env) m gs) none:=_root_.id rfl
@[simp] theorem adt (f:LF):dcL f c d k cf b ls env m gs=ob (f ls env (b+c)) fun r=>bi (isVoid (m.get (b+c))) (bi (iV (b+c) gs) (k cf b (r.1::ls) (d r.1 env) (Oz m (b+c) r.2) gs) none) none:=_root_.id rfl
@[simp] theorem adu (f:EF)(gh:GF):dcE f gh d k cf b ls env m gs=KS (f cf ls env m) fun r=>fM r.v (fun x=>bi (gh (.undef::ls) (d .undef env)) (some [⟨env,r.m,some x,[]⟩]) none) (k cf b (r.v::ls) (d r.v env) r.m (r.m::gs)):=_root_.id rfl
@[simp] theorem SG:Iw ls env=true:=_root_.id rfl
@[simp] theorem adv:ghF ls env=false:=_root_.id rfl
@[simp] theorem adw (g:GF):ghD g ls env=g (.undef::ls) env:=_root_.id rfl
@[simp] theorem Uo (g:Mem):hd m (g::gs)=g:=_root_.id rfl
@[simp] theorem Uq (g:Mem):tl (g::gs)=gs:=_root_.id rfl
@[simp] theorem PL (i:Nat)(x:Blk):Oz m i (some x)=m.set i x:=_root_.id rfl
@[simp] theorem LX:isVoid (some .void)=true:=_root_.id rfl
@[simp] theorem LY (i:Nat):iV i []=true:=_root_.id rfl
@[simp] theorem Ky (i:Nat)(g:Mem):iV i (g::gs)=bi (isVoid (g.get i)) (iV i gs) false:=_root_.id rfl
@[simp] theorem LZ (f:RF)(v:j3):stable f ls env v 0 gs=true:=_root_.id rfl
@[simp] theorem Ma (f:RF)(v:j3)(n:Nat)(g:Mem):stable f ls env v (n+1) (g::gs)=bi (Option.rec false (fun u=>jW 100 u v) (f ls env g)) (stable f ls env v n gs) false:=_root_.id rfl
end
@[simp] theorem Ik (env:T j3):Q0 [] [] env=some env:=_root_.id rfl
@[simp] theorem Gq (j:Option Nat)(js:List (Option Nat))(v:j3)(vs:List j3)(env:T j3):Q0 (j::js) (v::vs) env=Q0 js vs (trD j v env):=_root_.id rfl
@[simp] theorem PN (dcf:fO)(rs:List sV)(env:T j3)(m:Mem):leave dcf rs ⟨.ret,env,m,[],none⟩=ob (results rs env m) fun l=>some [⟨result l,m⟩]:=_root_.id rfl
@[simp] theorem Kz (dcf:fO)(rs:List sV)(env:T j3)(m:Mem):leave dcf rs ⟨.normal,env,m,[],none⟩=ob (results rs env m) fun l=>some [⟨result l,m⟩]:=_root_.id rfl
@[simp] theorem Mc (env:T j3)(m:Mem):results [] env m=some []:=_root_.id rfl
@[simp] theorem results_tmp (j:Nat)(rs:List sV)(env:T j3)(m:Mem):results (.tmp j::rs) env m=ob (env.get j) fun v=>ob (results rs env m) fun l=>some (v::l):=_root_.id rfl
@[simp] theorem NY:result []=.tuple []:=_root_.id rfl
@[simp] theorem NZ (v:j3):result [v]=v:=_root_.id rfl
@[simp] theorem Oa (v x:j3)(l:List j3):result (v::x::l)=.tuple (v::x::l):=_root_.id rfl
structure Ext (m m':Mem):Prop where
 ok:T.Ok m'.t m'.next
 next:m.next≤m'.next
 lim:m'.lim=m.lim
 old:∀i,i<m.next→m'.get i=m.get i
theorem Ext.refl {m:Mem}(h:T.Ok m.t m.next):Ext m m:=⟨h,Nat.le_refl _,rfl,fun _ _=>rfl⟩
theorem Ext.trans {a b c:Mem}(h:Ext a b)(k:Ext b c):Ext a c:=
 ⟨k.ok,Nat.le_trans h.next k.next,k.lim.trans h.lim,fun i hi=>(k.old i (Nat.lt_of_lt_of_le hi h.next)).trans (h.old i hi)⟩
theorem Ext.new {a m:Mem}(h:Ext a m)(b:Blk):Ext a (m.new b):=
 ⟨h.ok.push b,Nat.le_succ_of_le h.next,h.lim,fun i hi=>by rw [Mem.D7 h.ok,if_neg (by have:=h.next;omega)];exact h.old i hi⟩
theorem Ext.set {a m:Mem}(h:Ext a m){i:Nat}(hi:i<m.next)(hn:a.next≤i)(b:Blk):Ext a (m.set i b):=
 ⟨h.ok.put _ _ hi,h.next,h.lim,fun j hj=>by rw [Mem.K4 h.ok hi,if_neg (by omega)];exact h.old j hj⟩
theorem Ext.get {a m:Mem}(h:Ext a m){i:Nat}{b:Blk}(ha:T.Ok a.t a.next)(hg:a.get i=some b):m.get i=some b:=
 (h.old i (Mem.y9 ha hg)).trans hg
def zK (m:Mem)(v:j3)(xs:List Int):Prop:=
 (v=.nilSlice∧xs=[])∨∃p:Nat×Nat,((∃c,v=.slice p.1 p.2 xs.length c)∨∃es,v=.sliceU p.1 p.2 xs.length es)∧p.1<m.next∧(xs=[]∨∃n rows,m.get p.1=some (.cells 1 n rows)∧p.2+xs.length≤n∧∀i (h:i<xs.length),rows.get (p.2+i)=some [.int .i64 xs[i]])
theorem zK.ext {m m':Mem}(h:Ext m m'){v:j3}{xs:List Int}(hv:zK m v xs):zK m' v xs:=by
 rcases hv with hv | ⟨id,h1,h2,h3⟩
 ·exact .inl hv
 ·refine .inr ⟨id,h1,Nat.lt_of_lt_of_le h2 h.next,?_⟩
  rcases h3 with h3 | ⟨n,rows,h4,h5,h6⟩
  ·exact .inl h3
  ·exact .inr ⟨n,rows,(h.old id.1 h2).trans h4,h5,h6⟩
theorem Gr {n i:Nat}{rows:T (List j3)}{v:j3}(h:i<n)(hr:rows.get i=some [v]):ld1 (some (.cells 1 n rows)) i=some v:=by
 have:=mJ (rs:=1) (n:=n) (rows:=rows) (i:=i) (j:=0) (by omega) h hr
 rw [Nat.mul_one] at this
 exact this
theorem Z6 {i:Nat}(h:i<4611686018427387904):w64 ((i:Int)+1)=((i+1:Nat):Int):=by rw [kF (by omega) (by omega)];rfl
theorem zK.at {m:Mem}{v:j3}{xs:List Int}(h:zK m v xs){i:Nat}(hi:i<xs.length):
  ∃q:Nat×Nat,vSl v none (fun id off len _=>idx len (.int .i64 i) fun k=>some (j3.ptr id (off+k))) (fun id off len _=>idx len (.int .i64 i) fun k=>some (j3.ptr id (off+k)))=some (.ptr q.1 q.2)∧q.1<m.next∧ld1 (m.get q.1) q.2=some (.int .i64 xs[i]):=by
 rcases h with⟨_,rfl⟩ | ⟨id,h1,h2,h3⟩
 ·simp at hi
 ·rcases h3 with rfl | ⟨n,rows,h4,h5,h6⟩
  ·simp at hi
  ·refine⟨(id.1,id.2+i),?_,h2,by rw [h4];exact Gr (by omega) (h6 i hi)⟩
   rcases h1 with⟨c,rfl⟩ | ⟨c,rfl⟩
   ·simp only [sj]
    rw [oh _ _ _ hi]
   ·simp only [nZ]
    rw [oh _ _ _ hi]
theorem zK.cells {m:Mem}{v:j3}{xs:List Int}(h:zK m v xs):v.cells=[v]:=by
 rcases h with⟨rfl,rfl⟩ | ⟨id,⟨c,rfl⟩ | ⟨c,rfl⟩,_⟩<;>rfl
theorem zK.pan {m:Mem}{v:j3}{xs:List Int}(h:zK m v xs){β:Type}(p:j3→β)(q:β):fM v p q=q:=by
 rcases h with⟨rfl,rfl⟩ | ⟨id,⟨c,rfl⟩ | ⟨c,rfl⟩,_⟩<;>rfl
theorem zK.bM {m:Mem}{v:j3}{xs:List Int}(h:zK m v xs):Go.AM.bM v=true:=by
 rcases h with⟨rfl,rfl⟩ | ⟨id,⟨c,rfl⟩ | ⟨c,rfl⟩,_⟩<;>rfl
theorem zK.len {m:Mem}{v:j3}{xs:List Int}(h:zK m v xs):vSl v (some (j3.int .i64 0)) (fun _ _ n _=>some (.int .i64 n)) (fun _ _ n _=>some (.int .i64 n))=some (.int .i64 xs.length):=by
 rcases h with⟨rfl,rfl⟩ | ⟨id,⟨c,rfl⟩ | ⟨c,rfl⟩,_⟩<;>rfl
theorem zK.lenOf {m:Mem}{v:j3}{xs:List Int}(h:zK m v xs):Go.AM.lenOf v=some xs.length:=by
 rcases h with⟨rfl,rfl⟩ | ⟨id,⟨c,rfl⟩ | ⟨c,rfl⟩,_⟩<;>rfl
def ints (xs:List Int):List j3:=xs.map (j3.int .i64)
namespace T
variable {α:Type}
theorem Me {t:T α}{n:Nat}(h:Ok t n):∀i (x y:α),i≤n→(t.put i x).put i y=t.put i y:=by
 induction h with
 | e=>intro i x y hi;obtain rfl:i=0:=by omega
      rfl
 | @nd l r z n hl hr ihl ihr=>
  intro i x y hi
  cases i with
  | zero=>rfl
  | succ i=>
   rw [I9,I9]
   split
   ·rename_i h0;rw [I9,if_pos h0,ihl _ _ _ (by omega)]
   ·rename_i h0;rw [I9,if_neg h0,ihr _ _ _ (by omega)]
theorem put_comm {t:T α}{n:Nat}(h:Ok t n):∀i (x y:α),i<n→(t.put n x).put i y=(t.put i y).put n x:=by
 induction h with
 | e=>intro i x y hi;omega
 | @nd l r z n hl hr ihl ihr=>
  intro i x y hi
  cases i with
  | zero=>
   rw [I9,BG,I9]
   split<;>rfl
  | succ i=>
   rw [I9 (i:=n),I9 (i:=i)]
   by_cases hn:n%2=0
   ·rw [if_pos hn,I9]
    by_cases h0:i%2=0
    ·rw [if_pos h0,if_pos h0,I9,if_pos hn]
     have e:(n+1) / 2=n / 2:=by omega
     rw [e] at hl ihl
     have:=ihl (i / 2) x y (by omega)
     rw [this]
    ·rw [if_neg h0,if_neg h0,I9,if_pos hn]
   ·rw [if_neg hn,I9]
    by_cases h0:i%2=0
    ·rw [if_pos h0,if_pos h0,I9,if_neg hn]
    ·rw [if_neg h0,if_neg h0,I9,if_neg hn]
     have:=ihr (i / 2) x y (by omega)
     rw [this]
end T
theorem sw {α:Type}{p:List α→Prop}(h0:p [])(hs:∀l b,p l→p (l ++ [b])):∀l,p l:=by
 intro l
 have:p l.reverse.reverse:=by
  generalize l.reverse=r
  induction r with
  | nil=>exact h0
  | cons x r ih=>rw [List.reverse_cons];exact hs _ _ ih
 rwa [List.reverse_reverse] at this
def ext (m:Mem)(l:List Blk):Mem:=l.foldl Mem.new m
theorem V8 (m:Mem)(b:Blk):m.new b=ext m [b]:=rfl
theorem V9 (m:Mem)(l l':List Blk):ext (ext m l) l'=ext m (l++l'):=by simp [ext]
theorem ext_nil (m:Mem):ext m []=m:=rfl
theorem iA (m:Mem)(l:List Blk)(b:Blk):ext m (l ++ [b])=(ext m l).new b:=by simp [ext]
@[simp] theorem Cg (m:Mem)(l:List Blk):(ext m l).next=m.next+l.length:=by
 induction l using sw with
 | h0=>rfl
 | hs l b ih=>rw [iA,Mem.BH,ih];simp;omega
@[simp] theorem Mf (m:Mem)(l:List Blk):(ext m l).lim=m.lim:=by
 induction l using sw with
 | h0=>rfl
 | hs l b ih=>rw [iA,Mem.La,ih]
theorem sD {m:Mem}(hm:m.Ok)(l:List Blk):(ext m l).Ok:=by
 induction l using sw with
 | h0=>exact hm
 | hs l b ih=>rw [iA];exact ih.new b
theorem ext_get {m:Mem}(hm:m.Ok)(l:List Blk)(i:Nat):(ext m l).get i=if i<m.next then m.get i else l[i-m.next]?:=by
 induction l using sw with
 | h0=>
  rw [ext_nil]
  split
  ·rfl
  ·cases h:m.get i with
   | none=>simp
   | some b=>have:=Mem.y9 hm h;omega
 | hs l b ih=>
  rw [iA,Mem.D7 (sD hm l),ih,Cg]
  by_cases h1:i<m.next
  ·rw [if_neg (by omega),if_pos h1,if_pos h1]
  ·rw [if_neg h1,if_neg h1]
   by_cases h2:i=m.next+l.length
   ·rw [if_pos h2,List.getElem?_append_right (by omega),show i-m.next-l.length=0 from by omega];rfl
   ·rw [if_neg h2]
    by_cases h3:i-m.next<l.length
    ·rw [List.getElem?_append_left h3]
    ·rw [List.getElem?_eq_none (by omega),List.getElem?_eq_none (by simp;omega)]
theorem M0 {m:Mem}(hm:m.Ok)(l:List Blk)(c:Nat):(ext m l).get (m.next+c)=l[c]?:=by
 rw [ext_get hm,if_neg (by omega),show m.next+c-m.next=c from by omega]
theorem H6 {m:Mem}(hm:m.Ok)(l:List Blk):(ext m l).get m.next=l[0]?:=M0 hm l 0
theorem AL {m:Mem}(hm:m.Ok)(l:List Blk){i:Nat}(h:i<m.next):(ext m l).get i=m.get i:=by rw [ext_get hm,if_pos h]
theorem dh {m:Mem}(hm:m.Ok)(l:List Blk):Ext m (ext m l):=⟨sD hm l,by simp,by simp,fun i hi=>AL hm l hi⟩
theorem Mem.wM {m:Mem}(hm:m.Ok)(a b:Blk):(m.new a).set m.next b=m.new b:=by
 show (⟨(m.t.put m.next a).put m.next b,_,_⟩:Mem)=_
 rw [T.Me hm _ _ _ (Nat.le_refl _)];rfl
theorem Mem.AO {m:Mem}(hm:m.Ok)(a b:Blk){i:Nat}(h:i<m.next):(m.new a).set i b=(m.set i b).new a:=by
 show (⟨(m.t.put m.next a).put i b,_,_⟩:Mem)=⟨(m.t.put i b).put m.next a,_,_⟩
 rw [T.put_comm hm _ _ _ h];rfl
theorem M4 {m:Mem}(hm:m.Ok)(l:List Blk)(c:Nat)(b:Blk)(h:c<l.length):(ext m l).set (m.next+c) b=ext m (l.set c b):=by
 induction l using sw with
 | h0=>simp at h
 | hs l a ih=>
  rw [iA]
  by_cases h1:c<l.length
  ·rw [Mem.AO (sD hm l) _ _ (by rw [Cg];omega),ih h1,List.set_append_left _ _ h1,iA]
  ·have:c=l.length:=by simp at h;omega
   subst this
   have e:m.next+l.length=(ext m l).next:=by simp
   rw [e,Mem.wM (sD hm l),List.set_append_right _ _ (Nat.le_refl _)]
   simp [iA]
theorem O1 {m:Mem}(hm:m.Ok)(l:List Blk)(b:Blk)(h:0<l.length):(ext m l).set m.next b=ext m (l.set 0 b):=M4 hm l 0 b h
end
end Go.AM
namespace Go.AM
open Go
theorem jv {α:Type}(a b:Nat)(x y:α):bi (Nat.beq a b) x y=if a=b then x else y:=oL a b x y
theorem yU {α:Type}(a b:Nat)(x y:α):bi (Nat.ble a b) x y=if a≤b then x else y:=by
 cases h:Nat.ble a b with
 | true=>rw [if_pos (Nat.le_of_ble_eq_true h)];rfl
 | false=>rw [if_neg (fun hh=>by rw [Nat.ble_eq_true_of_le hh] at h;cases h)];rfl
theorem Gs {α:Type}(a b:Nat)(x y:α):bi (Nat.blt a b) x y=if a<b then x else y:=yU (a+1) b x y
theorem eP (ls:List j3)(env:T j3)(p:Nat×Nat×OF)(l:List (Nat×Nat×OF))(cs:List j3):lay (p::l) ls env cs =
  if (p.2.2 ls env).cells.length=p.2.1 then if p.1+p.2.1≤cs.length then lay l ls env (cs.take p.1++((p.2.2 ls env).cells++cs.drop (p.1+(p.2.2 ls env).cells.length))) else none else none:=by
 rw [Jq,jv,C8,C8]
 split
 ·rename_i h
  show bi (Nat.ble (p.1+p.2.1) cs.length) _ _=_
  rw [yU]
  split
  ·rename_i h2
   rw [eZ _ _ _ (by omega)]
  ·rfl
 ·rfl
theorem O3 (sz:Nat)(a x:OF)(cf:y8)(ls:List j3)(env:T j3)(m:Mem):C9 sz a x cf ls env m=iP (a ls env) fun id off=>
  if (x ls env).cells.length=sz then storeAt m id off (x ls env).cells fun m'=>some [⟨.undef,m'⟩] else none:=by
 rw [Gp];simp only [jv]
theorem Z4 {β:Type}{m:Mem}(hm:m.Ok)(hl:m.lim≤m.next)(l:List Blk)(c off:Nat)(vs:List j3)(k:Mem→Option β):
  storeAt (ext m l) (m.next+c) off vs k=bi (G7 vs) (ob (stB l[c]? off vs) fun b=>k (ext m (l.set c b))) none:=by
 cases h1:G7 vs with
 | false=>
  unfold storeAt
  rw [h1]
  cases Nat.blt (m.next+c) (ext m l).lim<;>rfl
 | true=>
  rw [dN (by rw [Mf];omega) h1,M0 hm,H9]
  by_cases hc:c<l.length
  ·congr 1
   funext b
   rw [M4 hm _ _ _ hc]
  ·rw [List.getElem?_eq_none (by omega)];rfl
theorem J3 {β:Type}{m:Mem}(hm:m.Ok)(hl:m.lim≤m.next)(l:List Blk)(off:Nat)(vs:List j3)(k:Mem→Option β):
  storeAt (ext m l) m.next off vs k=bi (G7 vs) (ob (stB l[0]? off vs) fun b=>k (ext m (l.set 0 b))) none:=Z4 hm hl l 0 off vs k
@[simp] theorem KA (j:Nat)(k:Nat)(rs:List sV)(env:T j3)(m:Mem):results (.cell j (some k)::rs) env m=ob (ob (env.get j) fun p=>iP p fun id off=>ldN (m.get id) off k) fun v=>ob (results rs env m) fun l=>some (v::l):=id rfl
@[simp] theorem Js (j:Nat)(rs:List sV)(env:T j3)(m:Mem):results (.cell j none::rs) env m=ob (ob (env.get j) fun p=>iP p fun id off=>ld1 (m.get id) off) fun v=>ob (results rs env m) fun l=>some (v::l):=id rfl
end Go.AM
namespace Go.AM
open Go
section
variable {α β:Type}
@[congr] theorem SH {b b':Bool}{x x' y y':α}(hb:b=b')(h1:b'=true→x=x')(h2:b'=false→y=y'):bi b x y=bi b' x' y':=by
 subst hb
 cases b with
 | true=>exact h1 rfl
 | false=>exact h2 rfl
@[simp] theorem Ur (b:Bool)(x:α):bi b x x=x:=by cases b<;>rfl
@[simp] theorem adx (b:Bool)(x y:α):bi (!b) x y=bi b y x:=by cases b<;>rfl
theorem z8 (b:Bool)(x y:α)(k:α→Option β):ob (bi b (some x) (some y)) k=k (bi b x y):=by cases b<;>rfl
theorem u7 (b:Bool)(x y:α)(k:α→Option (List β)):bnd (bi b (some [x]) (some [y])) k=k (bi b x y):=by cases b<;>rfl
theorem p8 (b:Bool)(x y:α)(k:α→Option β):KS (bi b (some [x]) (some [y])) k=k (bi b x y):=by cases b<;>rfl
end
@[simp] theorem Mh (b c:Bool):bi b (j3.bool c) (j3.bool false)=.bool (b&&c):=by cases b<;>rfl
@[simp] theorem Ob (b c:Bool):bi b (j3.bool true) (j3.bool c)=.bool (b||c):=by cases b<;>rfl
@[simp] theorem Us {β:Type}(b:Bool)(v w:j3)(p:j3→β)(q:β):fM (bi b v w) p q=bi b (fM v p q) (fM w p q):=by cases b<;>rfl
end Go.AM
namespace Go.AM
open Go
section
variable {α:Type}(a b c:Bool)(x y z:α)
@[simp] theorem Ut:bi b (bi b x y) z=bi b x z:=by cases b<;>rfl
@[simp] theorem SI:bi b x (bi b y z)=bi b x z:=by cases b<;>rfl
@[simp] theorem Uu:bi (b&&c) (bi b x y) z=bi (b&&c) x z:=by cases b<;>cases c<;>rfl
@[simp] theorem Uv:bi (b&&c) (bi c x y) z=bi (b&&c) x z:=by cases b<;>cases c<;>rfl
@[simp] theorem ady:bi (b||c) x (bi b y z)=bi (b||c) x z:=by cases b<;>cases c<;>rfl
@[simp] theorem adz:bi (b||c) x (bi c y z)=bi (b||c) x z:=by cases b<;>cases c<;>rfl
end
end Go.AM
namespace Go.AM
open Go
@[simp] theorem aeg (b:Bool)(f f':T j3)(m m':Mem)(p p':Option j3)(k k':List Mk):bi b (⟨f,m,p,k⟩:EM) ⟨f',m',p',k'⟩=⟨bi b f f',bi b m m',bi b p p',bi b k k'⟩:=by cases b<;>rfl
@[simp] theorem aeh (b:Bool)(l l' r r':T j3)(x x':j3):bi b (T.nd l x r) (T.nd l' x' r')=.nd (bi b l l') (bi b x x') (bi b r r'):=by cases b<;>rfl
@[simp] theorem adA (b:Bool)(v w:j3)(m m':Mem):bi b (⟨v,m⟩:VM) ⟨w,m'⟩=⟨bi b v w,bi b m m'⟩:=by cases b<;>rfl
end Go.AM
namespace Go.AM
open Go
@[simp] theorem PO (w:Bool):isB w .undef=false:=id rfl
end Go.AM
namespace Go.AM
open Go
@[simp] theorem Gt (ks:List PK)(a b:List j3):kg ks (.agg a) (.agg b)=R6 ks a b:=id rfl
@[simp] theorem PS:R6 [] [] []=some true:=id rfl
@[simp] theorem Gu (k:PK)(ks:List PK)(x y:j3)(a b:List j3):R6 (k::ks) (x::a) (y::b)=ob (Ih k x y) fun r=>bi r (R6 ks a b) (some false):=id rfl
@[simp] theorem adB:Ih .i=J5:=id rfl
@[simp] theorem SK (k:IntKind)(a b:Int):J5 (.int k a) (.int k b)=some (decide (a=b)):=by
 show bi (kEq k k) (some (aG a b)) none=_
 rw [Ce,bI,show (a==b)=decide (a=b) from rfl];rfl
@[simp] theorem Mj (b c:Bool):bi b (some c) (some false)=some (b&&c):=by cases b<;>rfl
end Go.AM
namespace Go.AM
open Go
section
variable {α β:Type}
@[congr] theorem aei {o o':Option α}{k:α→Option β}(h:o=o'):ob o k=ob o' k:=by rw [h]
@[congr] theorem adC {o o':Option (List α)}{k:α→Option (List β)}(h:o=o'):bnd o k=bnd o' k:=by rw [h]
@[congr] theorem Uw {o o':Option (List α)}{k:α→Option β}(h:o=o'):KS o k=KS o' k:=by rw [h]
@[congr] theorem Ux {v v':j3}{p:j3→β}{q:β}(h:v=v'):fM v p q=fM v' p q:=by rw [h]
@[congr] theorem Uy {v v':j3}{k:Nat→Nat→Option β}(h:v=v'):iP v k=iP v' k:=by rw [h]
@[congr] theorem Uz {v v':j3}{k:IntKind→Int→Option β}(h:v=v'):vB v k=vB v' k:=by rw [h]
@[congr] theorem SL {v v':j3}{k:Bool→Option β}(h:v=v'):kV v k=kV v' k:=by rw [h]
@[congr] theorem UA {v v':j3}{k:List j3→Option β}(h:v=v'):zM v k=zM v' k:=by rw [h]
@[congr] theorem UC {v v':j3}{k:List j3→Option β}(h:v=v'):JR v k=JR v' k:=by rw [h]
@[congr] theorem UD {v v':j3}{k:List UInt8→Option β}(h:v=v'):pO v k=pO v' k:=by rw [h]
@[congr] theorem UE {v v':j3}{k:Nat→Option β}(h:v=v'):kU v k=kU v' k:=by rw [h]
end
end Go.AM
namespace Go.AM
open Go
section
variable {α β:Type}
@[simp high] theorem PU (a:α)(k:α→Option β):ob (some a) k=k a:=id rfl
@[simp high] theorem PV (k:α→Option β):ob none k=none:=id rfl
@[simp high] theorem PW (x y:α):bi true x y=x:=id rfl
@[simp high] theorem Oc (x y:α):bi false x y=y:=id rfl
@[simp high] theorem UF (i:Nat):(T.e:T α).get i=none:=id rfl
@[simp high] theorem Od (l:T α)(x:α)(r:T α):(T.nd l x r).get 0=some x:=id rfl
@[simp high] theorem UG (i:Nat)(x:α):(T.e:T α).put i x=.nd .e x .e:=id rfl
@[simp high] theorem Oe (l:T α)(y:α)(r:T α)(x:α):(T.nd l y r).put 0 x=.nd l x r:=id rfl
@[simp high] theorem Og (x:α)(n:Nat)(t:T α)(i:Nat):T.rep x (n+1) t i=T.rep x n (t.put i x) (i+1):=id rfl
@[simp high] theorem Il (m:Mem):reserve 0 m=m:=id rfl
@[simp high] theorem Im (n:Nat)(m:Mem):reserve (n+1) m=reserve n (m.new .void):=id rfl
@[simp high] theorem Oh (m:Mem)(b:Blk):(m.new b).next=m.next+1:=id rfl
@[simp high] theorem PX (m:Mem)(b:Blk):(m.new b).lim=m.lim:=id rfl
@[simp high] theorem Oi (m:Mem)(i:Nat)(b:Blk):(m.set i b).next=m.next:=id rfl
@[simp high] theorem PY (m:Mem)(i:Nat)(b:Blk):(m.set i b).lim=m.lim:=id rfl
end
end Go.AM
namespace Go.AM
open Go
@[simp] theorem Mq:jW 100 .undef .undef=true:=id rfl
end Go.AM
namespace Go.AM
open Go
end Go.AM
namespace Go.AM
open Go
theorem AP {β:Type}{es:Nat}{cells:List j3}(h:cells.length=es)(k:Blk→Option β):qy es 1 cells k=k (Q9 cells):=by
 show ob (ob (takeN es cells) fun r=>ob (rowsOf es 0 (fJ es cells)) fun rest=>some (r::rest)) (fun rows=>k (.cells es 1 (T.ofList rows)))=_
 rw [aB _ _ (by omega),G5,aJ,List.drop_of_length_le (by omega),List.take_of_length_le (by omega)]
 show k (.cells es 1 (.nd .e cells .e))=k (.cells (len' cells) 1 (.nd .e cells .e))
 rw [C8,h]
theorem kG (es:Nat)(zero:List j3)(ps:List (Nat×Nat×OF))(ls:List j3)(env:T j3)(nid:Nat)(hz:zero.length=es):F6 es 1 zero ps ls env nid=ob (lay ps ls env zero) fun cells=>if cells.length=es then some (.slice nid 0 1 1,some (Q9 cells)) else none:=by
 show ob (lay ps ls env (dz zero [])) (fun cells=>qy es 1 cells fun b=>some (j3.slice nid 0 1 1,some b))=_
 rw [L9,List.append_nil]
 congr 1
 funext cells
 split
 ·rename_i h;rw [AP h]
 ·rename_i h
  show ob (ob (takeN es cells) fun r=>ob (rowsOf es 0 (fJ es cells)) fun rest=>some (r::rest)) _=none
  cases ht:takeN es cells with
  | none=>rfl
  | some r=>
   obtain⟨h1,h2⟩:=dH _ _ _ ht
   rw [G5,aJ]
   cases hd:cells.drop es with
   | nil=>
    have:=List.drop_eq_nil_iff.1 hd
    omega
   | cons x xs=>rfl
@[simp] theorem SN {β:Type}(len:Nat)(k:Nat→Option β):idx len (.int .i64 0) k=if 0<len then k 0 else none:=by
 show bi (Nat.blt 0 len) (k 0) none=_
 rw [Gs]
noncomputable def KC (b:Option Blk)(k:j3)(es:List (j3×j3)):Option Blk:=match b with
 | some (.mapU _)=>pO k fun _=>some (.mapU es)
 | _=>some (.map es)
@[simp] theorem SQ (es:List (j3×j3))(k:j3)(es2:List (j3×j3)):KC (some (.map es)) k es2=some (.map es2):=rfl
@[simp] theorem PZ (es:List (j3×j3))(s:List UInt8)(es2:List (j3×j3)):KC (some (.mapU es)) (.str s) es2=some (.mapU es2):=rfl
theorem Gv (m:Mem)(id:Nat)(k:j3)(es:List (j3×j3)):iT m id k es=ob (KC (m.get id) k es) fun b=>some [⟨.undef,m.set id b⟩]:=by
 unfold iT KC
 match m.get id with
 | some (.mapU _)=>cases k<;>rfl
 | some (.map _) | some .void | some .dead | some (.cells ..) | some (.iter ..) | some (.tail _) | some (.loop ..) | some .deferred | some (.siter ..) | some (.buf ..) | none=>rfl
noncomputable def msB (b:Option Blk)(f:EqF)(n:Nat)(k x:j3):Option Blk:=
 JW b fun es=>ob (I6 f n k es) fun r=>Option.rec (KC b k (es ++ [(k,x)])) (fun p=>ob es[p.1]? fun e=>bi (Nat.beq e.1.cells.length n) (KC b k (Y0 es k x p.1)) none) r
theorem uS (f:EqF)(n:Nat)(mp k x:OF)(cf:y8)(ls:List j3)(env:T j3)(m:Mem):y5 f n mp k x cf ls env m=zH (mp ls env) none fun id=>bi (Nat.blt id m.lim) none (ob (msB (m.get id) f n (k ls env) (x ls env)) fun b=>some [⟨.undef,m.set id b⟩]):=by
 show zH (mp ls env) none (fun id=>bi (Nat.blt id m.lim) none _)=_
 congr 1
 funext id
 congr 1
 unfold msB
 have hp:=Gv m id
 have key:∀es,(ob (I6 f n (k ls env) es) fun r=>(Option.rec (iT m id (k ls env) (dz es [(k ls env,x ls env)])) (fun p=>ob (sW p.1 es) fun e=>bi (Nat.beq (len' e.1.cells) n) (iT m id (k ls env) (Y0 es (k ls env) (x ls env) p.1)) none) r:iR)) =
   ob (ob (I6 f n (k ls env) es) fun r=>Option.rec (KC (m.get id) (k ls env) (es ++ [(k ls env,x ls env)])) (fun p=>ob es[p.1]? fun e=>bi (Nat.beq e.1.cells.length n) (KC (m.get id) (k ls env) (Y0 es (k ls env) (x ls env) p.1)) none) r) fun b=>some [⟨.undef,m.set id b⟩]:=fun es=>by
  cases I6 f n (k ls env) es with
  | none=>rfl
  | some r=>
   cases r with
   | none=>simp only [G5];rw [hp,L9]
   | some p=>
    simp only [G5]
    rw [cZ]
    cases es[p.1]? with
    | none=>rfl
    | some e=>
     simp only [G5,C8]
     cases Nat.beq e.1.cells.length n with
     | true=>simp only [H9];rw [hp]
     | false=>rfl
 match hb:m.get id with
 | some (.map es)=>rw [hb] at key;exact key es
 | some (.mapU es)=>rw [hb] at key;exact key es
 | some .void | some .dead | some (.cells ..) | some (.iter ..) | some (.tail _) | some (.loop ..) | some .deferred | some (.siter ..) | some (.buf ..) | none=>rfl
@[congr] theorem UH {β:Type}{v v':j3}{z:Option β}{k:Nat→Option β}(h:v=v'):zH v z k=zH v' z k:=by rw [h]
theorem yV (f:EqF)(n:Nat)(k:j3):I6 f n k []=bi (Nat.beq (len' k.cells) n) (ob (f k k) fun _=>some none) none:=rfl
theorem wN (f:EqF)(n:Nat)(k:j3)(e:j3×j3)(es:List (j3×j3)):I6 f n k (e::es)=bi (Nat.beq (len' k.cells) n) (findKey f k (e::es) 0) none:=rfl
@[simp] theorem Oj (f:OF)(params:List (Option Nat))(assign body:M6)(cf:y8)(fu:Nat)(env:T j3)(m:Mem)(k:List Mk):zO f params assign body cf fu none env m k=KV cf (f [] env) params assign body env (m.new .deferred) (.c m.next::k):=id rfl
@[simp] theorem Qa (cf:y8)(f:FuncId)(a b:List j3)(params:List (Option Nat))(assign body:M6)(env:T j3)(m:Mem)(k:List Mk):KV cf (.func (.func f) a b) params assign body env m k =
  bnd (cf (.func f) (a++(.func (.yield m.next) [] []::b)) (m.new (.loop .ready none env params assign body))) fun r=>fM r.v (fun _=>none) <|
   lq (r.m.get m.next) fun st pend _ _ _ _=>match st with
    | .busy=>none
    | _=>match pend with
     | none=>qC .normal env (r.m.set m.next .dead) k
     | some x=>qC x env (r.m.set m.next .dead) k:=by
 show bnd (cf (.func f) (dz a (dz [.func (.yield m.next) [] []] b)) _) _=_
 rw [L9,L9];rfl
@[simp] theorem SS {β:Type}(st:LoopState)(pend:Option X9)(env:T j3)(ps:List (Option Nat))(as bd:M6)(f:LoopState→Option X9→T j3→List (Option Nat)→M6→M6→Option β):lq (some (.loop st pend env ps as bd)) f=f st pend env ps as bd:=id rfl
end Go.AM
namespace Go.AM
open Go
theorem jT {β:Type}{m:Mem}{id:Nat}(hl:m.lim≤id)(off:Nat)(vs:List j3)(k:Mem→Option β):storeAt m id off vs k=bi (G7 vs) (ob (stB (m.get id) off vs) fun b=>k (m.set id b)) none:=by
 cases h1:G7 vs with
 | true=>rw [dN hl h1];rfl
 | false=>
  unfold storeAt
  rw [h1]
  cases Nat.blt id m.lim<;>rfl
end Go.AM
