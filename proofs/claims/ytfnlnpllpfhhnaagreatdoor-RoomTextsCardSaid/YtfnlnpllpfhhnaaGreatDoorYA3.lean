/- A part of an evaluator for the model, proved sound: what it answers holds of the model; it speaks of every program, no condition. -/
import Derived.Test.YtfnlnpllpfhhnaaGreatDoorYA2
import Derived.OrdersIn
set_option linter.unusedSimpArgs false
set_option linter.unusedVariables false
namespace Go.AM
open Go
noncomputable section
theorem NU (v:j5):∀(n i j:Nat) (t:T j5),i≠j→way n j (G9 n i v t)=way n j t:=by
 intro n
 induction n with
 | zero=>intro i j t h;rfl
 | succ n ih=>
  intro i j t h
  cases t with
  | e=>
   cases i with
   | zero=>rfl
   | succ i=>rcases avZ i with h0 | h0<;>simp only [G9,h0]<;>rfl
  | nd l x r=>
   cases i with
   | zero=>
    cases j with
    | zero=>exact absurd rfl h
    | succ j=>rcases avZ j with h0 | h0<;>simp only [way,G9,h0]<;>rfl
   | succ i=>
    cases j with
    | zero=>rcases avZ i with h0 | h0<;>simp only [way,G9,h0]<;>rfl
    | succ j=>
     rcases avZ i with h0 | h0<;>rcases avZ j with h1 | h1<;>simp only [way,G9,h0,h1]
     ·exact ih (i / 2) (j / 2) l (by omega)
     ·rfl
     ·rfl
     ·exact ih (i / 2) (j / 2) r (by omega)
theorem AR {d:Option Nat}{j:Nat}(h:d≠some j)(v:j5)(ls ls':List j5)(env:T j5):trO (.slot j) ls' (trD d v env)=trO (.slot j) ls env:=by
 cases d with
 | none=>rfl
 | some i=>exact NU v 64 i j env (fun e=>h (by rw [e]))
theorem NV {d:Option Nat}{y:Opd}(h:∀j,y=.slot j→d≠some j)(v:j5)(ls:List j5)(env:T j5):trO (bump y) (v::ls) (trD d v env)=trO y ls env:=by
 cases y with
 | loc k=>rw [Et];show trO (.loc (k+1)) (v::ls) (trD d v env)=_;rw [Et];simp
 | slot j=>exact AR (h j rfl) v ls (v::ls) env
 | con c=>rfl
section
variable {f:Opd→Opd}{ls ls':List j5}{env env':T j5}
theorem CX {o:AOp}(h:∀x∈Jv o,Sm f ls env ls' env' x)(cf:K8)(m:Mem):evA cf (mapA f o) ls' env' m=evA cf o ls env m:=by
 cases o with
 | p o=>show ob (trP (sw f o) ls' env') _=ob (trP o ls env) _;rw [CS h]
 | r o=>show ob (trR (Nl f o) ls' env' m) _=ob (trR o ls env m) _;rw [CU h]
 | a o=>show ob (trL (PX f o) ls' env' m.next) _=ob (trL o ls env m.next) _;rw [CV h]
 | e o=>exact CW h cf m
theorem Kn {o:AOp}{g:Option (Opd×Bool)}(h:∀x∈Jv o,Sm f ls env ls' env' x)(hg:∀p,g=some p→Sm f ls env ls' env' p.1)(cf:K8)(m:Mem):
  evG cf (g.map fun p=>(f p.1,p.2)) (mapA f o) ls' env' m=evG cf g o ls env m:=by
 cases g with
 | none=>exact CX h cf m
 | some p=>
  obtain⟨x,wt⟩:=p
  have h0:trO (f x) ls' env'=trO x ls env:=hg _ rfl
  show bi (isB wt (trO (f x) ls' env')) (evA cf (mapA f o) ls' env' m) (one .undef m)=bi (isB wt (trO x ls env)) (evA cf o ls env m) (one .undef m)
  rw [h0,CX h]
end
theorem NW {α β:Type}{x:Option (List α)}{f g:α→Option (List β)}(h:∀a os,f a=some os→g a=some os){outs:List β}(hx:bnd x f=some outs):bnd x g=some outs:=by
 have key:∀(l:List α) (outs:List β),Hw f l=some outs→Hw g l=some outs:=by
  intro l
  induction l with
  | nil=>intro outs h;exact h
  | cons a l ih=>
   intro outs hl
   rw [zD] at hl ⊢
   obtain⟨x,h1,hl⟩:=J6 hl
   obtain⟨y,h2,hl⟩:=J6 hl
   rw [h _ _ h1,ih _ h2];exact hl
 cases x with
 | none=>cases hx
 | some l=>
  match l,hx with
  | [],hx=>exact hx
  | [a],hx=>exact h a _ hx
  | a::b::t,hx=>exact key (a::b::t) _ hx
theorem Ko (f:Opd→Opd)(o:AOp):xV (mapA f o)=xV o:=by cases o<;>rfl
theorem Kq {β:Type}{v:j5}{p:j5→β}{q:β}(h:¬ ∃x,v=.pan x):kK v p q=q:=by
 cases v<;>first | rfl | exact absurd ⟨_,rfl⟩ h
theorem Kr {e:Bool}{d:Option Nat}{k k':RC}{cf:K8}{ls ls':List j5}{env:T j5}{r:VM}{os:List EM}(h:∀os,k cf (r.v::ls') (trD d r.v env) r.m=some os→k' cf (r.v::ls) (trD d r.v env) r.m=some os)
  (hk:Qh e d k cf ls' env r=some os):Qh e d k' cf ls env r=some os:=by
 cases e with
 | false=>exact h os hk
 | true=>
  have hk:kK r.v (fun x=>some [⟨env,r.m,some x,[]⟩]) (k cf (r.v::ls') (trD d r.v env) r.m)=some os:=hk
  show kK r.v (fun x=>some [⟨env,r.m,some x,[]⟩]) (k' cf (r.v::ls) (trD d r.v env) r.m)=some os
  by_cases hx:∃x,r.v=.pan x
  ·obtain⟨v,mm⟩:=r
   obtain⟨x,hx⟩:=hx
   have hx:v=.pan x:=hx
   subst hx
   exact hk
  ·rw [Kq hx] at hk ⊢
   exact h os hk
theorem Kt {f:Opd→Opd}{i:Inst}{g:Option (Opd×Bool)}(h:qB i=none)(hg:g.isNone=i.guard.isNone):qB ⟨mapA f i.op,i.dst,g⟩=none:=by
 obtain⟨op,dst,guard⟩:=i
 cases guard with
 | some p=>
  cases g with
  | none=>cases hg
  | some q=>simp [qB]
 | none=>
  cases g with
  | some q=>cases hg
  | none=>
   cases dst with
   | some d=>simp [qB]
   | none=>
    cases op with
    | e o=>cases o<;>first | rfl | cases h
    | _=>rfl
def Rl (r:List Opd)(ls ls':List j5)(env:T j5):Prop:=∀k,trO (r.getD k (.con .undef)) ls' env=(ls[k]?).getD .undef
theorem Rl.rn {r:List Opd}{ls ls':List j5}{env:T j5}(h:Rl r ls ls' env)(x:Opd):Sm (rn r) ls env ls' env x:=by
 cases x with
 | loc k=>show trO (r.getD k (.con .undef)) ls' env=trO (.loc k) ls env;rw [h k,Et]
 | slot j=>rfl
 | con c=>rfl
theorem wJ {i:Inst}{l:List Inst}(h:jq (i::l)=false):iP (i::l)=trI i.op i.dst i.guard (iP l):=by
 refine sP (.inr ?_)
 simp only [jq,axy] at h
 cases hd:qB i with
 | none=>rfl
 | some p=>rw [hd] at h;cases h.1
theorem CY (cf:K8):∀(l:List Inst) (r:List Opd) (ls ls':List j5) (env:T j5) (m:Mem) (outs:List EM),jq l=false→Rl r ls ls' env→(∀j,.slot j∈r→vO j l=false)→
  iP (mG r l) cf ls' env m=some outs→iP l cf ls env m=some outs:=by
 intro l
 induction l with
 | nil=>intro r ls ls' env m outs _ _ _ h;exact h
 | cons i l ih=>
  intro r ls ls' env m outs hnd hr hs h
  have hnd':jq l=false:=by simp only [jq,axy] at hnd;exact hnd.2
  have hs':∀j,.slot j∈r→i.dst≠some j∧vO j l=false:=fun j hj=>by
   have:=hs j hj
   simpa [vO] using this
  have keep:iP (⟨mapA (rn r) i.op,i.dst,i.guard.map fun p=>(rn r p.1,p.2)⟩::mG (.loc 0::r.map bump) l) cf ls' env m=some outs→iP (i::l) cf ls env m=some outs:=by
   intro h
   have hd:qB i=none:=by
    simp only [jq,axy] at hnd
    cases hd:qB i with
    | none=>rfl
    | some p=>rw [hd] at hnd;cases hnd.1
   rw [sP (.inr (Kt hd (by cases i.guard<;>rfl)))] at h
   rw [wJ hnd]
   have h:trI (mapA (rn r) i.op) i.dst (i.guard.map fun p=>(rn r p.1,p.2)) (iP (mG (.loc 0::r.map bump) l)) cf ls' env m=some outs:=h
   rw [Qi] at h ⊢
   rw [Kn (fun x _=>hr.rn x) (fun p _=>hr.rn p.1),Ko] at h
   refine NW (fun v os hv=>Kr (fun os hv=>?_) hv) h
   refine ih _ _ _ _ _ _ hnd' ?_ ?_ hv
   ·intro k
    cases k with
    | zero=>rfl
    | succ k=>
     have e1:(Opd.loc 0::r.map bump).getD (k+1) (.con .undef)=bump (r.getD k (.con .undef)):=by
      rw [avF,avF,awv,awe]
      cases r[k]? <;> rfl
     rw [e1,NV,hr k]
     ·simp
     ·intro j hj
      have:Opd.slot j∈r:=by
       rw [avF] at hj
       cases hk:r[k]? with
       | none=>rw [hk] at hj;cases hj
       | some y=>rw [hk] at hj;obtain rfl:y=.slot j:=hj;exact avG hk
      exact (hs' j this).1
   ·intro j hj
    rcases avL.1 hj with hj | hj
    ·cases hj
    ·obtain⟨y,hy,hyj⟩:=awy.1 hj
     cases y with
     | slot j'=>obtain rfl:j'=j:=by simpa [bump] using hyj
                exact (hs' _ hy).2
     | loc k=>simp [bump] at hyj
     | con c=>simp [bump] at hyj
  have drop:∀x,i.op=.p (.mov x)→i.dst=none→i.guard=none→(∀j,rn r x=.slot j→vO j l=false)→iP (mG (rn r x::r) l) cf ls' env m=some outs→iP (i::l) cf ls env m=some outs:=by
   intro x h1 h2 h3 h4 h
   rw [wJ hnd,h1,h2,h3]
   show iP l cf (trO x ls env::ls) env m=some outs
   refine ih _ _ _ _ _ _ hnd' ?_ ?_ h
   ·intro k
    cases k with
    | zero=>exact hr.rn x
    | succ k=>simpa using hr k
   ·intro j hj
    rcases avL.1 hj with hj | hj
    ·exact h4 j hj.symm
    ·exact (hs' j hj).2
  simp only [mG] at h
  split at h
  ·rename_i x h1 h2 h3
   split at h
   ·rename_i j hj
    cases hw:vO j l with
    | true=>rw [hw] at h;exact keep h
    | false=>
     rw [hw] at h
     refine drop x h1 h2 h3 (fun j' hj'=>?_) (by rw [hj];exact h)
     rw [hj] at hj';cases hj';exact hw
   ·rename_i hns
    exact drop x h1 h2 h3 (fun j hj=>absurd hj (hns j)) h
  ·exact keep h
section
variable {P:Program}{G:Mem}{ι:Inj}{n:Nm}{m:Mem}{w:World}{slots:List Nat}{done:List (Option Nat)}{ls:List j5}{env:T j5}{a:Act}
def Qk:bB→Exit
 | .normal=>.normal
 | .exit id=>.exit id
 | .ret=>.ret
def NY (ι:Inj)(o:Out):Exit:=match o.pv with
 | none=>Qk o.x
 | some x=>.panic [{v:=H6 ι x,recovered:=false}]
def Yr (ι:Inj)(o:Out):Prop:=∀x,o.pv=some x→o.x=.ret∧x.lt (o.m.nm ι)
theorem bP {ι:Inj}{o:Out}(h:o.pv=none):Yr ι o:=fun x hx=>by rw [h] at hx;cases hx
theorem kE {ι:Inj}{o:Out}(h:Yr ι o)(hx:o.x≠.ret):o.pv=none:=by
 cases hp:o.pv with
 | none=>rfl
 | some x=>exact absurd (h x hp).1 hx
def Yt (ι:Inj)(m:Mem)(ir r:Option Nat):Prop:=r=ir.map (fun l=>(ι l).b)∧∀l,ir=some l→m.has l
theorem Yt.step {ι':Inj}{m':Mem}{w':World}{ir r:Option Nat}{G:Mem}(h:Yt ι m ir r)(hst:Step P G ι m w ι' m' w'):Yt ι' m' ir r:=by
 refine⟨?_,fun l hl=>hst.has l (h.2 l hl)⟩
 rw [h.1]
 cases ir with
 | none=>rfl
 | some l=>simp [hst.ext l (h.2 l rfl)]
theorem St.start (hm:RM P G ι m w.heap){tmps:Array Value}(h:bM ι (m.nm ι) slots env tmps):St P ι (m.nm ι) slots [] [] env tmps:=
 ⟨fun t k hk=>by simp [jr] at hk,h,hm.glob,hm.ghas⟩
theorem qY {β:Type}{b:Option Blk}{f:LoopState→Option bB→T j5→List (Option Nat)→bF→bF→Option β}{r:β}(h:qC b f=some r):
  ∃st pend env params assign body,b=some (.loop st pend env params assign body)∧f st pend env params assign body=some r:=by
 unfold qC at h
 split at h
 ·exact⟨_,_,_,_,_,_,rfl,h⟩
 ·cases h
theorem EW {cf:K8}(hcf:xU P G cf)(hm:RM P G ι m w.heap){g:Operand}{l:Nat}{fv:j5}(hg:a.eval g=H6 ι fv)(hlt:fv.lt (m.nm ι))(hl:m.has l){outs:List VM}
  (h:RP cf m [.func (.yield l) [] []] fv=some outs):
  ∃d f args,(resolve a.eval (rangeCall g (ι l).b) 0).run P w=.ok d w∧(invoke d.target d.args).run P w=.ok (.enter f args) w∧CallsIn Fence.wide 0 P f args w (bI P G ι m w outs):=by
 obtain⟨fn,x,y,rfl,h⟩:=Eu h
 obtain⟨_,hx,hy⟩:=hlt
 cases fn with
 | func gf=>
  have h:cf (.func gf) (jl x (jl [.func (.yield l) [] []] y)) m=some outs:=h
  rw [ak,ak] at h
  obtain⟨hf,hcall⟩:=hcf.func h
  refine⟨{target:=.fn (.func gf) (H8 ι y).toArray,args:=(H8 ι x).toArray ++ #[.func (.yield (ι l).b) #[] #[]]},gf,_,?_,?_,hcall hm (gX hx ⟨⟨hl,trivial,trivial⟩,hy⟩)⟩
  ·show (Deferred.ofValue (a.eval g) (#[Operand.const (.func (.yield (ι l).b) #[] #[])].map a.eval)).run P w=_
   rw [hg]
   simp [H6,jw,Deferred.ofValue,Act.eval]
  ·simp [invoke,jU hf,iL,H8,H6,jw]
 | _=>cases h
theorem AU {F:Fence}{nn:Nat}{Q:Exit→Act→World→Prop}{x:bB}(h:Q (Qk x) a w):(exitCode x).wpIn F nn P Q a w:=by
 cases x with
 | normal=>exact wpIn_skip h
 | exit id=>exact wpIn_exit h
 | ret=>exact wpIn_ret h
theorem Gp {r:Option Nat}{cf:K8}(hcf:xU P G cf){nt:Nat}{g:Operand}{ps:Array Tmp}{assign body:Code}{z:Opd}{x y:bF}(hz:bK P slots [] g=some z)(hx:aI P slots assign=some x)(hy:aI P slots body=some y)
  (ha:tmpsIn nt assign=true) (hb:tmpsIn nt body=true) {w1:World} {m1:Mem} {ι1:Inj} {k:List Mk} {mark:List Deferred} {D:Nat} (hm:RM P G ι m w.heap) (hst1:Step P G ι m w ι1 m1 w1)
  (hen:bM ι (m.nm ι) slots env a.tmps) (hnt:nt≤a.tmps.size)
  (henter:∀fn,(Instr.enterLoop fn a.tmps ps assign body r).run P w=.ok (w1.heap.size,mark) (w1.alloc (.loop {state:=.ready,pending:=none,fn,tmps:=a.tmps,params:=ps,assign,body,defers:=D})))
  (hmarks:gD ι1 m1 k (mark++a.defers)) {outs:List Out} (hv:RQ cf (trO z [] env) (ps.toList.map fun t=>idxOf t slots 0) x y env m1 k=some outs) {Q:Exit→Act→World→Prop}
  (hQ:∀o∈outs,∀ι' w' a',Step P G ι m w ι' o.m w'→bM ι' (o.m.nm ι') slots o.env a'.tmps→a'.tmps.size=a.tmps.size→gD ι' o.m o.marks a'.defers→Yr ι' o→Q (NY ι' o) a' w'):
  (Code.rangeFunc g ps assign body).wpIn (FR r) 0 P Q a w:=by
 refine wpIn_rangeFunc fun fn _=>?_
 obtain⟨e1,e2⟩:=I5 (St.start hm hen) hz
 have hlaid:=Laid.new hst1.rm.ok hst1.rm.limn (.loop .ready none env (ps.toList.map fun t=>idxOf t slots 0) x y) rfl
 generalize hrec:({state:=.ready,pending:=none,fn,tmps:=a.tmps,params:=ps,assign,body,defers:=D}:Loop)=rec at *
 have hext:∀j,m1.has j→(ι1.upd m1.next ⟨w1.heap.size,0,0,none⟩) j=ι1 j:=fun j hj=>ι1.upd_ne _ fun h=>hlaid.free (h▸hj)
 have hst2:Step P G ι1 m1 w1 (ι1.upd m1.next ⟨w1.heap.size,0,0,none⟩) (m1.new (.loop .ready none env (ps.toList.map fun t=>idxOf t slots 0) x y)) (w1.alloc (.loop rec)):=by
  refine Step.lay (w':=w1.alloc (.loop rec)) hst1.rm hlaid (o:=.loop rec) (l:=⟨w1.heap.size,0,0,none⟩) ⟨rfl,rfl,rfl,rfl⟩ rfl rfl ?_ (by intro _ _ _ h;cases h)
  refine⟨rec,fZ,by rw [← hrec],by rw [← hrec];rfl,slots,?_,by rw [← hrec],by rw [← hrec];exact hx,by rw [← hrec];exact hy,nt,by rw [← hrec];exact hnt,by rw [← hrec];exact ha,by rw [← hrec];exact hb⟩
  have:=(hst1.env hen).mono (n:=m1.nm ι1) hext (Mem.bU hlaid.has hext)
  rw [← hrec];exact this
 have hst:=hst1.trans hst2
 have hlid:((ι1.upd m1.next ⟨w1.heap.size,0,0,none⟩) m1.next).b=w1.heap.size:=by rw [Inj.V8]
 generalize hι2:ι1.upd m1.next ⟨w1.heap.size,0,0,none⟩=ι2 at *
 generalize hm2:m1.new (.loop .ready none env (ps.toList.map fun t=>idxOf t slots 0) x y)=m2 at *
 have hhas:m2.has m1.next:=hlaid.self
 have hv:bnd (RP cf m2 [.func (.yield m1.next) [] []] (trO z [] env)) (fun r=>kK r.v (fun _=>none) <| qC (r.m.get m1.next) fun st pend _ _ _ _=>match st with
   | .busy=>none
   | _=>match pend with
    | none=>xL .normal env (r.m.set m1.next .dead) k
    | some x=>xL x env (r.m.set m1.next .dead) k)=some outs:=by rw [← hm2];exact hv
 obtain⟨vs,hvs,hk⟩:=bJ hv
 obtain⟨d,f,args,hres,hinv,hcall⟩:=EW (a:=a) hcf hst.rm (by rw [e1];exact (hst.H6 e2).symm) (j5.Z8 (Mem.bU hst.has hst.ext) _ e2) hhas hvs
 rw [hlid] at hres
 refine⟨w1.heap.size,mark,w1.alloc (.loop rec),d,w1.alloc (.loop rec),f,args,w1.alloc (.loop rec),(by rw [← hrec];exact henter fn),hres,fun _ _=>trivial,hinv,(fun hc=>by cases hc),CallsIn.mono (F:=FR r) hcall ?_⟩
 rintro e w3 (⟨v,rfl,r0,hr0,ι3,hst3,hlt3,_⟩ | ⟨r0,hr0,x0,ι3,hx0,_⟩)
 case inr=>
  obtain⟨os,hos,_⟩:=hk r0 hr0
  rw [hx0] at hos
  cases hos
 obtain⟨os,hos,hsub⟩:=hk r0 hr0
 rw [Kl hlt3] at hos
 obtain⟨st,pend,env',params',as',bd',hget,hos⟩:=qY hos
 obtain⟨L,hL,hLok⟩:=hst3.rm.blk m1.next _ hget
 have hι3:(ι3 m1.next).b=w1.heap.size:=by rw [hst3.ext _ hhas];exact hlid
 rw [hι3] at hL
 have hlim:r0.m.lim≤m1.next:=by rw [hst3.lim,hst2.lim];exact hst1.rm.limn
 have hbusy:L.state≠.busy:=by rw [hLok.state];intro e;subst e;cases hos
 have hend:=run_endLoop (P:=P) hL hbusy
 have hst4:Step P G ι3 r0.m w3 ι3 (r0.m.set m1.next .dead) (w3.putObj w1.heap.size (.loop {L with state:=.exhausted})):=by
  refine Step.set hst3.rm hlim hget rfl rfl (o:=.loop {L with state:=.exhausted}) ⟨by rw [hι3];rfl,rfl,rfl,rfl⟩ trivial (by intro _ _ _ h;cases h)
 have hall:=(hst.trans hst3).trans hst4
 have hmk:gD ι3 (r0.m.set m1.next .dead) k (mark++a.defers):=hmarks.step ((hst2.trans hst3).trans hst4)
 have henv:bM ι3 ((r0.m.set m1.next .dead).nm ι3) slots env a.tmps:=hall.env hen
 refine⟨L.pending,_,hend,?_⟩
 have key:∀j:Option Code,j=pend.map exitCode→(match j with
   | none=>Q .normal {a with defers:=mark++a.defers} (w3.putObj w1.heap.size (.loop {L with state:=.exhausted}))
   | some c=>c.wpIn (FR r) 0 P Q {a with defers:=mark++a.defers} (w3.putObj w1.heap.size (.loop {L with state:=.exhausted}))):=by
  rintro j rfl
  cases pend with
  | none=>
   have hos:xL .normal env (r0.m.set m1.next .dead) k=some os:=by cases st<;>first | exact hos | cases hos
   cases hos
   exact hQ _ (hsub _ (W9.2 rfl)) ι3 _ {a with defers:=mark++a.defers} hall henv rfl hmk (bP rfl)
  | some x'=>
   have hos:xL x' env (r0.m.set m1.next .dead) k=some os:=by cases st<;>first | exact hos | cases hos
   cases hos
   exact AU (hQ _ (hsub _ (W9.2 rfl)) ι3 _ {a with defers:=mark++a.defers} hall henv rfl hmk (bP rfl))
 exact key _ hLok.pending
end
section
variable {P:Program}{G:Mem}
def Ku (P:Program)(G:Mem)(slots:List Nat)(nt:Nat)(cf:K8)(fuel:Nat)(r:Option Nat)(c:Code)(ac:bF):Prop:=
 ∀(Q:Exit→Act→World→Prop) (ir:Option Nat) (env:T j5) (m:Mem) (k:List Mk) (ι:Inj) (w:World) (a:Act) (outs:List Out),
  RM P G ι m w.heap→bM ι (m.nm ι) slots env a.tmps→nt≤a.tmps.size→gD ι m k a.defers→Yt ι m ir r→trC ac cf fuel ir env m k=some outs→
  (∀o∈outs,∀ι' w' a',Step P G ι m w ι' o.m w'→bM ι' (o.m.nm ι') slots o.env a'.tmps→a'.tmps.size=a.tmps.size→gD ι' o.m o.marks a'.defers→Yr ι' o→Q (NY ι' o) a' w')→
  c.wpIn (FR r) 0 P Q a w
def jD (P:Program)(G:Mem)(slots:List Nat)(nt:Nat)(cf:K8)(r:Option Nat):Prop:=
 ∀(id:Nat) (ops:Array Oper) (n:Nat) (l:List (Nat×Inst)),Cj P slots ops=some (.dreg n l)→(∀(i:Nat) (o:Oper) (t:Tmp),ops[i]?=some o→o.dst=some t→t<nt)→
  ∀(Q:Exit→Act→World→Prop) (env:T j5) (m:Mem) (ι:Inj) (w:World) (a:Act) (outs:List EM),
  RM P G ι m w.heap→bM ι (m.nm ι) slots env a.tmps→nt≤a.tmps.size→zl l cf m.next [] env (reserve n m) [reserve n m]=some outs→
  (∀e∈outs,e.px=none→e.mks=[]→∀ι' w' a',Step P G ι m w ι' e.m w'→bM ι' (e.m.nm ι') slots e.env a'.tmps→a'.defers=a.defers→a'.tmps.size=a.tmps.size→Q .normal a' w')→
  (∀e∈outs,∀y,e.px=some y→e.mks=[]→∀ι' w' a',Step P G ι m w ι' e.m w'→y.lt (e.m.nm ι')→bM ι' (e.m.nm ι') slots e.env a'.tmps→a'.defers=a.defers→a'.tmps.size=a.tmps.size→Q (.panic [{v:=H6 ι' y,recovered:=false}]) a' w')→
  (Code.region id ops true).wpIn (FR r) 0 P Q a w
theorem lS {nt id:Nat}{ops:Array Oper}{d:Bool}(h:tmpsIn nt (.region id ops d)=true)(i:Nat)(o:Oper)(t:Tmp)(ho:ops[i]?=some o)(ht:o.dst=some t):t<nt:=by
 simp only [tmpsIn,awi] at h
 have:=h o (by simpa using Array.mem_of_getElem? ho)
 rw [ht] at this
 exact Eq.mp avM this
theorem ou {β:Type}{x:bB}{p:Option β}{q:Nat→Option β}{s:Option β}{r:β}(h:(bB.rec p q s x:Option β)=some r):
  (x=.normal∧p=some r)∨(∃id,x=.exit id∧q id=some r)∨(x=.ret∧s=some r):=by
 cases x with
 | normal=>exact .inl ⟨rfl,h⟩
 | exit id=>exact .inr (.inl ⟨id,rfl,h⟩)
 | ret=>exact .inr (.inr ⟨rfl,h⟩)
theorem ow {slots:List Nat}{nt:Nat}{cf:K8}(hcf:xU P G cf)(fuel:Nat){r:Option Nat}(hdraw:jD P G slots nt cf r):
  ∀(c:Code) (ac:bF),aI P slots c=some ac→tmpsIn nt c=true→Ku P G slots nt cf fuel r c ac:=by
 intro c
 induction c with
 | skip=>
  intro ac hc _ Q ir env m k ι w a outs hm hen hnt hmk hir hv hQ
  simp only [aI,U0] at hc;subst hc
  have hv:xL .normal env m k=some outs:=hv
  cases hv
  exact wpIn_skip (hQ _ (W9.2 rfl) ι w a (Step.refl hm) hen rfl hmk (bP rfl))
 | exit id=>
  intro ac hc _ Q ir env m k ι w a outs hm hen hnt hmk hir hv hQ
  simp only [aI,U0] at hc;subst hc
  have hv:xL (.exit id) env m k=some outs:=hv
  cases hv
  exact wpIn_exit (hQ _ (W9.2 rfl) ι w a (Step.refl hm) hen rfl hmk (bP rfl))
 | ret=>
  intro ac hc _ Q ir env m k ι w a outs hm hen hnt hmk hir hv hQ
  simp only [aI,U0] at hc;subst hc
  have hv:xL .ret env m k=some outs:=hv
  cases hv
  exact wpIn_ret (hQ _ (W9.2 rfl) ι w a (Step.refl hm) hen rfl hmk (bP rfl))
 | region id ops d=>
  intro ac hc hti Q ir env m k ι w a outs hm hen hnt hmk hir hv hQ
  cases d with
  | false=>
   simp only [aI] at hc
   split at hc
   ·rename_i l hl
    cases hc
    have hbind:∃es,iP l cf [] env m=some es∧(jq l=true→r=none)∧∀e∈es,∃os,kP k e=some os∧∀o∈os,o∈outs:=by
     cases hd:jq l with
     | true=>
      have hv:(bif jq l then Ca (iP l) else l9 (iP (mG [] l))) cf fuel ir env m k=some outs:=hv
      rw [hd,cond_true] at hv
      cases ir with
      | some l'=>cases hv
      | none=>
       have hv:bnd (iP l cf [] env m) (kP k)=some outs:=hv
       obtain⟨es,hes,hk⟩:=bJ hv
       exact⟨es,hes,fun _=>hir.1,hk⟩
     | false=>
      have hv:(bif jq l then Ca (iP l) else l9 (iP (mG [] l))) cf fuel ir env m k=some outs:=hv
      rw [hd,cond_false] at hv
      have hv:bnd (iP (mG [] l) cf [] env m) (kP k)=some outs:=hv
      obtain⟨es,hes,hk⟩:=bJ hv
      exact⟨es,CY cf l [] [] [] env m es hd (fun k=>by simp [trO,Q6]) (fun j hj=>by cases hj) hes,fun h=>(by cases h),hk⟩
    obtain⟨es,hes,hdr,hk⟩:=hbind
    refine wpIn_region (Km hcf (lS hti) _ _ _ hl hdr [] env m ι w a es hm hnt (St.start hm hen) hes ?_)
    intro e he ι' w' a' hst hen' hdef hmkok hsz hpx
    obtain⟨os,hos,hsub⟩:=hk e he
    obtain⟨env₁,m₁,px₁,mk₁⟩:=e
    have hmk':gD ι' m₁ (mk₁++k) a'.defers:=by
     refine⟨by rw [hdef,(hmk.step hst).1,awN],fun x hx=>?_⟩
     rcases avN.1 hx with hx | hx
     ·exact hmkok x hx
     ·exact (hmk.step hst).2 x hx
    cases px₁ with
    | none=>
     have hos:xL .normal env₁ m₁ (jl mk₁ k)=some os:=hos
     rw [ak] at hos
     cases hos
     exact hQ _ (hsub _ (W9.2 rfl)) ι' w' a' hst hen' hsz hmk' (bP rfl)
    | some x=>
     have hos:some [(⟨.ret,env₁,m₁,jl mk₁ k,some x⟩:Out)]=some os:=hos
     rw [ak] at hos
     cases hos
     exact hQ _ (hsub _ (W9.2 rfl)) ι' w' a' hst hen' hsz hmk' (fun y hy=>by cases hy;exact⟨rfl,hpx _ rfl⟩)
   ·cases hc
  | true=>
   simp only [aI] at hc
   have hform:∃n l,ac=.dreg n l:=by
    unfold Cj at hc
    split at hc
    ·cases hc
    ·split at hc
     ·cases hc;exact⟨_,_,rfl⟩
     ·cases hc
   obtain⟨n,l,rfl⟩:=hform
   have hv:bnd (zl l cf m.next [] env (reserve n m) [reserve n m]) (kP k)=some outs:=hv
   obtain⟨es,hes,hk⟩:=bJ hv
   refine hdraw id ops n l hc (lS hti) Q env m ι w a es hm hen hnt hes ?_ ?_
   intro e he hpx hmk0 ι' w' a' hst hen' hdef hsz
   obtain⟨os,hos,hsub⟩:=hk e he
   obtain⟨env₁,m₁,px₁,mk₁⟩:=e
   obtain rfl:px₁=none:=hpx
   obtain rfl:mk₁=[]:=hmk0
   have hos:xL .normal env₁ m₁ k=some os:=hos
   cases hos
   exact hQ _ (hsub _ (W9.2 rfl)) ι' w' a' hst hen' hsz (by rw [hdef];exact hmk.step hst) (bP rfl)
   intro e he y hpx hmk0 ι' w' a' hst hylt hen' hdef hsz
   obtain⟨os,hos,hsub⟩:=hk e he
   obtain⟨env₁,m₁,px₁,mk₁⟩:=e
   obtain rfl:px₁=some y:=hpx
   obtain rfl:mk₁=[]:=hmk0
   have hos:some [(⟨.ret,env₁,m₁,k,some y⟩:Out)]=some os:=hos
   cases hos
   exact hQ _ (hsub _ (W9.2 rfl)) ι' w' a' hst hen' hsz (by rw [hdef];exact hmk.step hst) (fun z hz=>by cases hz;exact⟨rfl,hylt⟩)
 | seq x y ihx ihy=>
  intro ac hc hti Q ir env m k ι w a outs hm hen hnt hmk hir hv hQ
  simp only [tmpsIn,avv] at hti
  simp only [aI] at hc
  split at hc
  ·rename_i cx cy hx hy
   cases hc
   have hv:bnd (trC cx cf fuel ir env m k) (fun o=>bB.rec (trC cy cf fuel ir o.env o.m o.marks) (fun _=>some [o]) (some [o]) o.x)=some outs:=hv
   obtain⟨os,hos,hk⟩:=bJ hv
   refine wpIn_seq (ihx cx hx hti.1 _ ir env m k ι w a os hm hen hnt hmk hir hos ?_)
   intro o ho ι' w' a' hst hen' hsz hmk' hpv
   obtain⟨os',hos',hsub⟩:=hk o ho
   obtain⟨x₀,env₀,m₀,k₀,pv₀⟩:=o
   rcases ou hos' with⟨h1,h2⟩ | ⟨id,h1,h2⟩ | ⟨h1,h2⟩
   ·obtain rfl:x₀=.normal:=h1
    obtain rfl:pv₀=none:=kE hpv (by intro e;cases e)
    refine ihy cy hy hti.2 Q ir env₀ m₀ k₀ ι' w' a' os' hst.rm hen' (by rw [hsz];exact hnt) hmk' (hir.step hst) h2 ?_
    intro o2 ho2 ι'' w'' a'' hst' hen'' hsz' hmk'' hpv'
    exact hQ o2 (hsub _ ho2) ι'' w'' a'' (hst.trans hst') hen'' (hsz'.trans hsz) hmk'' hpv'
   ·obtain rfl:x₀=.exit id:=h1
    obtain rfl:pv₀=none:=kE hpv (by intro e;cases e)
    cases h2
    exact hQ _ (hsub _ (W9.2 rfl)) ι' w' a' hst hen' hsz hmk' (bP rfl)
   ·obtain rfl:x₀=.ret:=h1
    cases h2
    have:=hQ _ (hsub _ (W9.2 rfl)) ι' w' a' hst hen' hsz hmk' hpv
    cases pv₀<;>exact this
  ·cases hc
 | cond c x y ihx ihy=>
  intro ac hc hti Q ir env m k ι w a outs hm hen hnt hmk hir hv hQ
  simp only [tmpsIn,avv] at hti
  simp only [aI] at hc
  split at hc
  ·rename_i z cx cy hz hx hy
   cases hc
   obtain⟨t,h1,hv⟩:=nS hv
   obtain⟨e1,_⟩:=I5 (St.start hm hen) hz
   have h1:trO z [] env=.bool t:=h1
   refine wpIn_cond (t:=t) (by rw [e1,h1];rfl) ?_
   cases t with
   | true=>exact ihx cx hx hti.1 Q ir env m k ι w a outs hm hen hnt hmk hir hv hQ
   | false=>exact ihy cy hy hti.2 Q ir env m k ι w a outs hm hen hnt hmk hir hv hQ
  ·cases hc
 | block id x ihx=>
  intro ac hc hti Q ir env m k ι w a outs hm hen hnt hmk hir hv hQ
  simp only [tmpsIn] at hti
  simp only [aI] at hc
  split at hc
  ·rename_i cx hx
   cases hc
   have hv:bnd (trC cx cf fuel ir env m k) (fun o=>bB.rec (some [o]) (fun id'=>bi (Nat.beq id id') (xL .normal o.env o.m o.marks) (some [o])) (some [o]) o.x)=some outs:=hv
   obtain⟨os,hos,hk⟩:=bJ hv
   refine wpIn_block (ihx cx hx hti _ ir env m k ι w a os hm hen hnt hmk hir hos ?_)
   intro o ho ι' w' a' hst hen' hsz hmk' hpv
   obtain⟨os',hos',hsub⟩:=hk o ho
   obtain⟨x₀,env₀,m₀,k₀,pv₀⟩:=o
   rcases ou hos' with⟨h1,h2⟩ | ⟨id',h1,h2⟩ | ⟨h1,h2⟩
   ·obtain rfl:x₀=.normal:=h1
    obtain rfl:pv₀=none:=kE hpv (by intro e;cases e)
    cases h2
    exact hQ _ (hsub _ (W9.2 rfl)) ι' w' a' hst hen' hsz hmk' (bP rfl)
   ·obtain rfl:x₀=.exit id':=h1
    obtain rfl:pv₀=none:=kE hpv (by intro e;cases e)
    show Exit.inBlock id Q (.exit id') a' w'
    simp only [Exit.inBlock]
    rw [uy] at h2
    split at h2
    ·rename_i he
     subst he
     cases h2
     rw [if_pos rfl]
     exact hQ _ (hsub _ (W9.2 rfl)) ι' w' a' hst hen' hsz hmk' (bP rfl)
    ·rename_i he
     cases h2
     rw [if_neg (fun e=>he e.symm)]
     exact hQ _ (hsub _ (W9.2 rfl)) ι' w' a' hst hen' hsz hmk' (bP rfl)
   ·obtain rfl:x₀=.ret:=h1
    cases h2
    have:=hQ _ (hsub _ (W9.2 rfl)) ι' w' a' hst hen' hsz hmk' hpv
    cases pv₀<;>exact this
  ·cases hc
 | loop x ihx=>
  intro ac hc hti Q ir env m k ι w a outs hm hen hnt hmk hir hv hQ
  simp only [tmpsIn] at hti
  simp only [aI] at hc
  split at hc
  ·rename_i cx hx
   cases hc
   have hv:aj (fun env m k=>trC cx cf fuel ir env m k) fuel env m k=some outs:=hv
   have key:∀(j:Nat) (env:T j5) (m:Mem) (k:List Mk) (ι:Inj) (w:World) (a:Act) (outs:List Out),RM P G ι m w.heap→bM ι (m.nm ι) slots env a.tmps→nt≤a.tmps.size→gD ι m k a.defers→Yt ι m ir r→
     aj (fun env m k=>trC cx cf fuel ir env m k) j env m k=some outs→
     (∀o∈outs,∀ι' w' a',Step P G ι m w ι' o.m w'→bM ι' (o.m.nm ι') slots o.env a'.tmps→a'.tmps.size=a.tmps.size→gD ι' o.m o.marks a'.defers→Yr ι' o→Q (NY ι' o) a' w')→
     Code.roundsIn (FR r) 0 P x Q j a w:=by
    intro j
    induction j with
    | zero=>intro env m k ι w a outs _ _ _ _ _ hv;cases hv
    | succ j ih=>
     intro env m k ι w a outs hm hen hnt hmk hir hv hQ
     have hv:bnd (trC cx cf fuel ir env m k) (fun o=>bB.rec (aj (fun env m k=>trC cx cf fuel ir env m k) j o.env o.m o.marks) (fun _=>some [o]) (some [o]) o.x)=some outs:=hv
     obtain⟨os,hos,hk⟩:=bJ hv
     rw [roundsIn_succ]
     refine ihx cx hx hti _ ir env m k ι w a os hm hen hnt hmk hir hos ?_
     intro o ho ι' w' a' hst hen' hsz hmk' hpv
     obtain⟨os',hos',hsub⟩:=hk o ho
     obtain⟨x₀,env₀,m₀,k₀,pv₀⟩:=o
     rcases ou hos' with⟨h1,h2⟩ | ⟨id',h1,h2⟩ | ⟨h1,h2⟩
     ·obtain rfl:x₀=.normal:=h1
      obtain rfl:pv₀=none:=kE hpv (by intro e;cases e)
      refine ih env₀ m₀ k₀ ι' w' a' os' hst.rm hen' (by rw [hsz];exact hnt) hmk' (hir.step hst) h2 ?_
      intro o2 ho2 ι'' w'' a'' hst' hen'' hsz' hmk'' hpv'
      exact hQ o2 (hsub _ ho2) ι'' w'' a'' (hst.trans hst') hen'' (hsz'.trans hsz) hmk'' hpv'
     ·obtain rfl:x₀=.exit id':=h1
      obtain rfl:pv₀=none:=kE hpv (by intro e;cases e)
      cases h2
      exact hQ _ (hsub _ (W9.2 rfl)) ι' w' a' hst hen' hsz hmk' (bP rfl)
     ·obtain rfl:x₀=.ret:=h1
      cases h2
      have:=hQ _ (hsub _ (W9.2 rfl)) ι' w' a' hst hen' hsz hmk' hpv
      cases pv₀<;>exact this
   exact wpIn_loop_rounds fuel (key fuel env m k ι w a outs hm hen hnt hmk hir hv hQ)
  ·cases hc
 | rangeFunc g ps x y ihx ihy=>
  intro ac hc hti Q ir env m k ι w a outs hm hen hnt hmk hir hv hQ
  simp only [tmpsIn,avv] at hti
  simp only [aI] at hc
  split at hc
  ·rename_i z cx cy hz hx hy
   cases hc
   cases ir with
   | none=>
    obtain rfl:r=none:=hir.1
    have hv:RQ cf (trO z [] env) (ps.toList.map fun t=>idxOf t slots 0) cx cy env (m.new .deferred) (.c m.next::k)=some outs:=hv
    have hlaid:=Laid.new hm.ok hm.limn .deferred rfl
    have hst1:Step P G ι m w (ι.upd m.next ⟨w.heap.size,0,0,none⟩) (m.new .deferred) (w.alloc (.deferred (some []))):=
     Step.lay (w':=w.alloc (.deferred (some []))) (l:=⟨w.heap.size,0,0,none⟩) hm hlaid (o:=.deferred (some [])) ⟨rfl,rfl,rfl,rfl⟩ rfl rfl (by show (w.heap.push _)[w.heap.size]?=_;exact fZ) (by intro _ _ _ h;cases h)
    have hsz1:(w.alloc (.deferred (some []))).heap.size=w.heap.size+1:=by show (w.heap.push _).size=_;simp
    refine Gp hcf hz hx hy hti.1 hti.2 (mark:=[{target:=.collected w.heap.size,args:=#[]}]) (D:=w.heap.size) hm hst1 hen hnt (fun fn=>?_) ⟨?_,?_⟩ hv hQ
    ·rw [run_enterLoop_outer,hsz1]
    ·rw [(hmk.step hst1).1]
     simp [uY]
    ·intro x hx
     rcases avL.1 hx with rfl | hx
     ·exact⟨hlaid.self,hm.limn⟩
     ·exact (hmk.step hst1).2 x hx
   | some l=>
    obtain rfl:r=some (ι l).b:=hir.1
    have hv:qC (m.get l) (fun _ _ _ _ _ _=>RQ cf (trO z [] env) (ps.toList.map fun t=>idxOf t slots 0) cx cy env m k)=some outs:=hv
    obtain⟨st,pend,env',params',as',bd',hget,hv⟩:=qY hv
    obtain⟨L,hL,_⟩:=hm.blk l _ hget
    refine Gp hcf hz hx hy hti.1 hti.2 (mark:=[]) (D:=L.defers) hm (Step.refl hm) hen hnt (fun fn=>?_) (by simpa using hmk) hv hQ
    exact run_enterLoop_inner hL fn a.tmps ps x y
  ·cases hc
 | scope x ihx=>intro ac hc;simp only [aI] at hc;cases hc
 | label l=>intro ac hc;simp only [aI] at hc;cases hc
 | goto l=>intro ac hc;simp only [aI] at hc;cases hc
 | refuse s=>intro ac hc;simp only [aI] at hc;cases hc
end
section
variable {P:Program}{G:Mem}{ι:Inj}{n:Nm}{m:Mem}{w:World}{slots:List Nat}
theorem AV (vs:List j5)(env:T j5):bZ [] vs env=match vs with | []=>some env | _ :: _=>none:=by cases vs<;>rfl
theorem xW (j:Option Nat)(js:List (Option Nat))(vs:List j5)(env:T j5):
  bZ (j::js) vs env=match vs with | []=>none | v::vs=>bZ js vs (trD j v env):=by cases vs<;>rfl
theorem nG:∀(ps:List Nat) (vs:List j5) (env env1:T j5) (tmps:Array Value),bM ι n slots env tmps→ltL n vs→bZ (ps.map fun t=>idxOf t slots 0) vs env=some env1→
  vs.length=ps.length∧bM ι n slots env1 ((ps.zip (H8 ι vs)).foldl (fun t (p,v)=>t.setIfInBounds p v) tmps)∧((ps.zip (H8 ι vs)).foldl (fun t (p,v)=>t.setIfInBounds p v) tmps).size=tmps.size:=by
 intro ps
 induction ps with
 | nil=>
  intro vs env env1 tmps h hv hs
  rw [List.map_nil,AV] at hs
  cases vs with
  | nil=>cases hs;exact⟨rfl,h,rfl⟩
  | cons v vs=>cases hs
 | cons p ps ih=>
  intro vs env env1 tmps h hv hs
  rw [axt,xW] at hs
  cases vs with
  | nil=>cases hs
  | cons v vs=>
   have h1:=h.put (some p) hv.1
   obtain⟨g1,g2,g3⟩:=ih vs _ env1 _ h1 hv.2 hs
   exact⟨by simp [g1],g2,by rw [show ((p::ps).zip (H8 ι (v::vs))).foldl (fun t (p,v)=>t.setIfInBounds p v) tmps=(ps.zip (H8 ι vs)).foldl (fun t (p,v)=>t.setIfInBounds p v) (tmps.setIfInBounds p (H6 ι v)) from rfl,g3];simp⟩
theorem Kv (ps:Array Nat)(vs:List Value)(tmps:Array Value):
  (ps.zip vs.toArray).foldl (fun t (p,v)=>t.setIfInBounds p v) tmps=(ps.toList.zip vs).foldl (fun t (p,v)=>t.setIfInBounds p v) tmps:=by
 rw [← Array.foldl_toList,Array.toList_zip]
theorem Ip {ι':Inj}{n':Nm}{L:Loop}{st st':LoopState}{pend pend':Option bB}{env:T j5}{params:List (Option Nat)}{as bd:bF}(h:vU P ι n L st pend env params as bd)(hi:∀i,n i→ι' i=ι i)(hn:n.le n'):
  vU P ι' n' {L with state:=st',pending:=pend'.map exitCode} st' pend' env params as bd:=by
 obtain⟨_,_,h3⟩:=h.mono hi hn
 exact⟨rfl,rfl,h3⟩
theorem step_loop {ι:Inj}{m:Mem}{w:World}(hm:RM P G ι m w.heap){l:Nat}(hl:m.lim≤l){st:LoopState}{pend:Option bB}{env:T j5}{params:List (Option Nat)}{as bd:bF}
  (hg:m.get l=some (.loop st pend env params as bd)) {L:Loop} (hL:w.heap[(ι l).b]?=some (.loop L)) (hok:vU P ι (m.nm ι) L st pend env params as bd) (st':LoopState) (pend':Option bB):
  Step P G ι m w ι (m.set l (.loop st' pend' env params as bd)) (w.putObj (ι l).b (.loop {L with state:=st',pending:=pend'.map exitCode})):=by
 refine Step.set hm hl hg rfl rfl (o:=.loop {L with state:=st',pending:=pend'.map exitCode}) ⟨rfl,rfl,rfl,rfl⟩ ?_ (by intro _ _ _ h;cases h)
 exact⟨_,kD hL,Ip hok (fun _ _=>rfl) (Mem.bU (fun i hi=>Mem.nu hm.ok hg rfl i hi) fun _ _=>rfl)⟩
theorem EX {cf:K8}(hcf:xU P G cf)(fuel:Nat)(hdraw:∀slots nt r,jD P G slots nt cf r){l:Nat}{args:List j5}{outs:List VM}(h:Ep cf fuel l args m=some outs)(hm:RM P G ι m w.heap)(hargs:ltL (m.nm ι) args):
  ∃L:Loop,w.heap[(ι l).b]?=some (.loop L)∧args.length=L.params.size∧
   RoundIn Fence.wide 0 P (ι l).b L.fn ((L.params.zip (H8 ι args).toArray).foldl (fun t (p,v)=>t.setIfInBounds p v) L.tmps) L.assign L.body w (bI P G ι m w outs):=by
 obtain⟨hlim,h⟩:=vT h
 have hlim:=ny hlim
 obtain⟨st,pend,env,params,as,bd,hget,h⟩:=qY h
 have hst:st=.ready∧pend=none∧ob (bZ params args env) (fun env1=>bnd (trC as cf fuel (some l) env1 m []) fun o=>match o.x,o.marks with
   | .normal,[]=>qC (o.m.get l) fun st2 pend2 env2 params2 assign2 body2=>match st2,pend2 with
    | .ready,none=>bnd (trC bd cf fuel (some l) o.env (o.m.set l (.loop .busy none env2 params2 assign2 body2)) []) (roundEnd l)
    | _,_=>none
   | _,_=>none)=some outs:=by
  cases st<;>cases pend<;>first | exact⟨rfl,rfl,h⟩ | cases h
 obtain⟨rfl,rfl,h⟩:=hst
 obtain⟨env1,hp,h⟩:=J6 h
 obtain⟨os,hos,hk⟩:=bJ h
 obtain⟨L,hL,hLs,hLp,slots,hLe,hLps,hLa,hLb,nt,hnt,hta,htb⟩:=hm.blk l _ hget
 rw [hLps] at hp
 obtain⟨g1,g2,g3⟩:=nG L.params.toList args env env1 L.tmps hLe hargs hp
 refine⟨L,hL,by rw [g1];simp,?_⟩
 rw [Kv]
 have hhas:m.has l:=⟨_,hget,rfl⟩
 have hir:Yt ι m (some l) (some (ι l).b):=⟨rfl,fun l' hl'=>by cases hl';exact hhas⟩
 refine roundIn_of_wpIn (F:=Fence.wide) trivial ?_
 refine ow hcf fuel (hdraw slots nt (some (ι l).b)) L.assign as hLa hta _ (some l) env1 m [] ι w {tmps:=(L.params.toList.zip (H8 ι args)).foldl (fun t (p,v)=>t.setIfInBounds p v) L.tmps,defers:=[]} os hm g2 (by rw [g3];exact hnt)
  ⟨rfl,fun _ h=>by cases h⟩ hir hos ?_
 intro o ho ι1 w1 a1 hst1 hen1 hsz1 hmk1 hpv1
 obtain⟨os',hos',hsub⟩:=hk o ho
 obtain⟨x₀,env₀,m₀,k₀,pv₀⟩:=o
 have hx:x₀=.normal∧k₀=[]∧qC (m₀.get l) (fun st2 pend2 env2 params2 assign2 body2=>match st2,pend2 with
    | .ready,none=>bnd (trC bd cf fuel (some l) env₀ (m₀.set l (.loop .busy none env2 params2 assign2 body2)) []) (roundEnd l)
    | _,_=>none)=some os':=by
  cases x₀<;>cases k₀<;>first | exact⟨rfl,rfl,hos'⟩ | cases hos'
 obtain⟨rfl,rfl,hos'⟩:=hx
 obtain rfl:pv₀=none:=kE hpv1 (by intro e;cases e)
 obtain⟨st2,pend2,env2,params2,as2,bd2,hget2,hos'⟩:=qY hos'
 have hst2:st2=.ready∧pend2=none∧bnd (trC bd cf fuel (some l) env₀ (m₀.set l (.loop .busy none env2 params2 as2 bd2)) []) (roundEnd l)=some os':=by
  cases st2<;>cases pend2<;>first | exact⟨rfl,rfl,hos'⟩ | cases hos'
 obtain⟨rfl,rfl,hos'⟩:=hst2
 obtain⟨os2,hos2,hk2⟩:=bJ hos'
 obtain⟨L2,hL2,hok2⟩:=hst1.rm.blk l _ hget2
 have hlim0:m₀.lim≤l:=by rw [hst1.lim];exact hlim
 have hι1:(ι1 l).b=(ι l).b:=by rw [hst1.ext l hhas]
 have hbeg:=run_beginRound (P:=P) hL2 hok2.state
 have hst2:=step_loop hst1.rm hlim0 hget2 hL2 hok2 .busy none
 rw [hι1] at hbeg
 rw [hι1,show ({L2 with state:=.busy,pending:=(none:Option bB).map exitCode}:Loop)={L2 with state:=.busy} from by rw [← hok2.pending]] at hst2
 refine⟨_,hbeg,?_⟩
 have hst12:=hst1.trans hst2
 refine ow hcf fuel (hdraw slots nt (some (ι l).b)) L.body bd hLb htb _ (some l) env₀ _ [] ι1 _ a1 os2 hst2.rm (hst2.env hen1) (by rw [hsz1];show nt≤Array.size _;rw [g3];exact hnt)
  (hmk1.step hst2) (hir.step hst12) hos2 ?_
 intro o3 ho3 ι3 w3 a3 hst3 hen3 hsz3 hmk3 hpv3
 obtain⟨os3,hos3,hsub3⟩:=hk2 o3 ho3
 obtain⟨x3,env3,m3,k3,pv3⟩:=o3
 have hall:=hst12.trans hst3
 have hk3:k3=[]∧pv3=none∧qC (m3.get l) (fun st pend env params assign body=>match st,pend with
  | .busy,none=>match x3 with
   | .normal=>one (.bool true) (m3.set l (.loop .ready none env params assign body))
   | x=>one (.bool false) (m3.set l (.loop .done (some x) env params assign body))
  | _,_=>none)=some os3:=by
  cases k3 with
  | nil=>
   cases pv3 with
   | none=>exact⟨rfl,rfl,hos3⟩
   | some=>cases hos3
  | cons=>cases pv3<;>cases hos3
 obtain⟨rfl,rfl,hos3⟩:=hk3
 obtain⟨st4,pend4,env4,params4,as4,bd4,hget4,hos3⟩:=qY hos3
 obtain⟨L4,hL4,hok4⟩:=hst3.rm.blk l _ hget4
 have hlim3:m3.lim≤l:=by rw [hall.lim];exact hlim
 have hι3:(ι3 l).b=(ι l).b:=by rw [hall.ext l hhas]
 have fin:∀(b:Bool) (pend':Option bB),os3=[⟨.bool b,m3.set l (.loop (if b then .ready else .done) pend' env4 params4 as4 bd4)⟩]→(pend'.map exitCode).isNone=b→
   ∃v w',(Instr.endRound (ι l).b (pend'.map exitCode)).run P w3=.ok v w'∧bI P G ι m w outs (.returned v) w':=by
  intro b pend' h1 h2
  have hend:=run_endRound (P:=P) (pend'.map exitCode) hL4
  have hst4:=step_loop hst3.rm hlim3 hget4 hL4 hok4 (if b then .ready else .done) pend'
  rw [hι3] at hend hst4
  rw [h2] at hend
  refine⟨_,_,hend,.inl ⟨_,rfl,⟨.bool b,m3.set l (.loop (if b then .ready else .done) pend' env4 params4 as4 bd4)⟩,hsub _ ?_,ι3,hall.trans hst4,trivial,by simp [H6]⟩⟩
  exact hsub3 _ (by rw [h1];exact W9.2 rfl)
 have fin':∀(b:Bool) (pend':Option bB),(st4=.busy∧pend4=none∧one (.bool b) (m3.set l (.loop (if b then .ready else .done) pend' env4 params4 as4 bd4))=some os3)→(pend'.map exitCode).isNone=b→
   ∃v w',(Instr.endRound (ι l).b (pend'.map exitCode)).run P w3=.ok v w'∧bI P G ι m w outs (.returned v) w':=by
  rintro b pend' ⟨_,_,h⟩ h2
  exact fin b pend' (by cases h;rfl) h2
 cases x3 with
 | normal=>exact fin' true none (by cases st4<;>cases pend4<;>first | exact⟨rfl,rfl,hos3⟩ | cases hos3) rfl
 | exit id=>exact fin' false (some (.exit id)) (by cases st4<;>cases pend4<;>first | exact⟨rfl,rfl,hos3⟩ | cases hos3) rfl
 | ret=>exact fin' false (some .ret) (by cases st4<;>cases pend4<;>first | exact⟨rfl,rfl,hos3⟩ | cases hos3) rfl
theorem Kw {r:ResultVar}{l:List ResultVar}{rs:List vI}(h:Jr P slots (r::l)=some rs):
  ∃x rs',rs=x::rs'∧Jr P slots l=some rs'∧((∃t j,r=.tmp t∧idxOf t slots 0=some j∧x=.tmp j)∨∃t ty j s,r=.cell t ty∧idxOf t slots 0=some j∧partT P ty=some s∧x=.cell j s):=by
 cases r with
 | tmp t=>
  simp only [Jr] at h
  split at h
  ·cases h;exact⟨_,_,rfl,by assumption,.inl ⟨t,_,rfl,by assumption,rfl⟩⟩
  ·cases h
 | cell t ty=>
  simp only [Jr] at h
  split at h
  ·cases h;exact⟨_,_,rfl,by assumption,.inr ⟨t,ty,_,_,rfl,by assumption,by assumption,rfl⟩⟩
  ·cases h
theorem CZ (r:vI)(rs:List vI)(env:T j5)(m:Mem):results (r::rs) env m=ob (match r with
  | .tmp j=>T.get env j
  | .cell j size=>ob (T.get env j) fun p=>sj p fun id off=>aO (m.get id) fun rs n rows=>match size with
   | none=>cell1 rs n rows off
   | some k=>ob (mO rs n rows off k) fun l=>some (.agg l)) fun v=>ob (results rs env m) fun l=>some (v::l):=rfl
def ael (tmps:Array Value):ResultVar→Sem Value
 | .tmp t=>pure (tmps.getD t undef)
 | .cell a t=>do loadVar t (← asAddr (tmps.getD a undef))
theorem zI (fn:Func)(tmps:Array Value):Go.results fn tmps=(do
  let vs ← fn.results.mapM (ael tmps)
  pure (if h:vs.size=1 then vs[0] else .tuple vs)):=by
 unfold Go.results
 congr 1
theorem Iq (ad:Addr):asAddr (.pointer (some ad))=pure ad:=rfl
theorem qZ (hm:RM P G ι m w.heap){env:T j5}{tmps:Array Value}(hen:bM ι (m.nm ι) slots env tmps):∀(l:List ResultVar) (rs:List vI),Jr P slots l=some rs→∀vs,results rs env m=some vs→
  ltL (m.nm ι) vs∧(l.mapM (ael tmps):Sem (List Value)).run P w=.ok (H8 ι vs) w:=by
 intro l
 induction l with
 | nil=>
  intro rs hc vs hv
  simp only [Jr,U0] at hc;subst hc
  have hv:some []=some vs:=hv
  cases hv
  exact⟨trivial,by simp [H8]⟩
 | cons r l ih=>
  intro rs hc vs hv
  obtain⟨x,rs',rfl,hc',hx⟩:=Kw hc
  rw [CZ] at hv
  obtain⟨v,h1,hv⟩:=J6 hv
  obtain⟨vs',h2,hv⟩:=J6 hv
  cases hv
  obtain⟨g1,g2⟩:=ih rs' hc' vs' h2
  rcases hx with⟨t,j,rfl,hj,rfl⟩ | ⟨t,ty,j,s,rfl,hj,hs,rfl⟩
  ·obtain⟨_,u,e1,e2,e3⟩:=hen.val t j hj
   have h1:env.get j=some v:=h1
   rw [h1] at e1;cases e1
   refine⟨⟨e2,g1⟩,?_⟩
   simp only [aya,ael,avy,avP,avs,g2,e3,H8]
  ·obtain⟨p,h1,h3⟩:=J6 h1
   obtain⟨id,off,rfl,h3⟩:=iQ h3
   obtain⟨_,u,e1,e2,e3⟩:=hen.val t j hj
   rw [h1] at e1;cases e1
   obtain⟨q1,q2⟩:=qM hs hm h3
   refine⟨⟨q2,g1⟩,?_⟩
   have e4:tmps.getD t undef=.pointer (some (ι.at id off)):=by rw [e3];simp [H6]
   simp only [aya,ael,avy,avP,avs,g2,e4,H8,Iq,q1]
theorem Da (l:List j5):H6 ι (result l)=(if h:(H8 ι l).toArray.size=1 then (H8 ι l).toArray[0] else .tuple (H8 ι l).toArray):=by
 match l with
 | []=>simp [result,H6,H8]
 | [v]=>simp [result,H8]
 | v::u::l=>simp [result,H6,H8]
theorem Ky {l:List j5}(h:ltL n l):(result l).lt n:=by
 match l with
 | []=>exact trivial
 | [v]=>exact h.1
 | v::u::l=>exact h
theorem Sj {β:Type}{b:Option Blk}{k:Option β}{r:β}(h:Zd b k=some r):b=some .deferred∧k=some r:=by
 unfold Zd at h
 split at h
 ·exact⟨rfl,h⟩
 ·cases h
def EY (ι:Inj):Option j5→FrameMode
 | none=>.returning
 | some x=>.panicking [{v:=H6 ι x,recovered:=false}]
theorem NZ {ι:Inj}{md:Option j5}:EY ι md≠.run:=by cases md<;>simp [EY]
def Ir (ι:Inj)(m:Mem)(md:Option j5):Prop:=∀x,md=some x→x.lt (m.nm ι)
theorem Ir.step {ι ι':Inj}{m m':Mem}{w w':World}{md:Option j5}(h:Ir ι m md)(hst:Step P G ι m w ι' m' w'):Ir ι' m' md∧EY ι' md=EY ι md:=by
 refine⟨fun x hx=>j5.Z8 (Mem.bU hst.has hst.ext) _ (h x hx),?_⟩
 cases md with
 | none=>rfl
 | some x=>simp only [EY,hst.H6 (h x rfl)]
def aem (P:Program)(G:Mem)(dcf:jP):Prop:=∀{f:FuncId} {args:List j5} {md:Option j5} {m:Mem} {outs:List (Mem×Option j5)},dcf f args md m=some outs→
 aek P f∧∀{ι:Inj} {w:World},RM P G ι m w.heap→ltL (m.nm ι) args→Ir ι m md→
  CallsDIn Fence.wide 0 P f (H8 ι args).toArray (EY ι md) w fun e u' w'=>∃v,e=.returned v∧∃r∈outs,∃ι',Step P G ι m w ι' r.1 w'∧Ir ι' r.1 r.2∧settle u'=EY ι' r.2
theorem wK {dcf:jP}(hdc:aem P G dcf){fn:Func}{rs:List vI}(hrs:Jr P slots fn.results.toList=some rs){ι0:Inj}{m0:Mem}{w0:World}{outs:List VM}:
  ∀(k:List Mk) (m:Mem) (ι:Inj) (w:World) (env:T j5) (tmps:Array Value) (ds:List Deferred) (md:Option j5) (vs:List VM),
  Step P G ι0 m0 w0 ι m w→bM ι (m.nm ι) slots env tmps→gD ι m k ds→Ir ι m md→Cb dcf (vP rs env) k md m=some vs→(∀v∈vs,v∈outs)→
  LeavesInM Fence.wide 0 P fn tmps (bI P G ι0 m0 w0 outs) ds (EY ι md) w:=by
 intro k
 induction k with
 | nil=>
  intro m ι w env tmps ds md vs hst hen hmk hmd hv hsub
  rw [hmk.1]
  have hv:vP rs env md m=some vs:=hv
  show LeavesIn Fence.wide 0 P fn tmps _ [] (EY ι md) w
  cases md with
  | none=>
   have hv:ob (results rs env m) (fun l=>one (result l) m)=some vs:=hv
   obtain⟨l,h2,hv⟩:=J6 hv
   cases hv
   obtain⟨g1,g2⟩:=qZ hst.rm hen _ rs hrs l h2
   refine⟨H6 ι (result l),?_,.inl ⟨_,rfl,⟨result l,m⟩,hsub _ (W9.2 rfl),ι,hst,Ky g1,rfl⟩⟩
   rw [Da,zI,axV]
   simp only [avy,map_eq_pure_bind,bind_assoc,pure_bind]
   rw [g2]
   simp
  | some x=>
   have hv:some [(⟨.pan x,m⟩:VM)]=some vs:=hv
   cases hv
   exact .inr ⟨_,hsub _ (W9.2 rfl),x,ι,rfl,hst,hmd x rfl,rfl⟩
 | cons y k ih=>
  intro m ι w env tmps ds md vs hst hen hmk hmd hv hsub
  have htail:gD ι m k (k.map (uY ι)):=⟨rfl,fun i hi=>hmk.2 i (awc _ hi)⟩
  have hy:=hmk.2 y (by simp)
  rw [hmk.1]
  refine⟨NZ,?_⟩
  cases y with
  | c id=>
   have hv:Zd (m.get id) (Cb dcf (vP rs env) k md (m.set id .dead))=some vs:=hv
   obtain⟨hget,hv⟩:=Sj hv
   have hb:w.heap[(ι id).b]?=some (.deferred (some [])):=hst.rm.blk id _ hget
   have hst2:Step P G ι m w ι (m.set id .dead) (w.putObj (ι id).b (.deferred none)):=
    Step.set hst.rm hy.2 hget rfl rfl (o:=.deferred none) ⟨rfl,rfl,rfl,rfl⟩ trivial (by intro _ _ _ h;cases h)
   refine .inl ⟨(ι id).b,_,rfl,run_takeDeferred hb,?_⟩
   exact ih (m.set id .dead) ι _ env tmps _ md vs (hst.trans hst2) (hst2.env hen) (htail.step hst2) (hmd.step hst2).1 hv hsub
  | d v args=>
   obtain⟨⟨fn',a,b,rfl⟩,hlt,hargs⟩:=hy
   have hv:bnd (PZ dcf (.func fn' a b) args md m) (fun r=>Cb dcf (vP rs env) k r.2 r.1)=some vs:=hv
   obtain⟨os,hos,hk⟩:=bJ hv
   cases fn' with
   | func f=>
    have hos:dcf f (jl a (jl args b)) md m=some os:=hos
    rw [ak,ak] at hos
    obtain⟨hf,hcall⟩:=hdc hos
    obtain⟨_,ha,hb⟩:=hlt
    refine .inr ⟨(fun h=>by cases h),.func f,(H8 ι b).toArray,f,(H8 ι (a++(args++b))).toArray,rfl,?_,(fun _ _=>trivial),?_⟩
    ·show (invoke (.fn (.func f) (H8 ι b).toArray) ((H8 ι a).toArray++(H8 ι args).toArray)).run P w=_
     simp [invoke,jU hf,iL]
    ·refine CallsDIn.mono (hcall hst.rm (gX ha (gX hargs hb)) hmd) ?_
     rintro e u' w' ⟨v,rfl,r,hr,ι',hst',hmd',hset⟩
     obtain⟨os',hos',hsub'⟩:=hk r hr
     show LeavesInM Fence.wide 0 P fn tmps _ (k.map (uY ι)) (settle u') w'
     rw [hset]
     exact ih r.1 ι' w' env tmps _ r.2 os' (hst.trans hst') (hst'.env hen) (htail.step hst') hmd' hos' (fun v hv=>hsub v (hsub' v hv))
   | _=>cases hos
structure xJ (P:Program)(f:FuncId)(sf:SFn):Prop where
 ok:aek P f
 is:∃(slots:List Nat) (fn:Func) (c:Code) (ac:bF) (rs:List vI),P.funcs[f]?=some fn∧fn.body=some c∧aI P slots c=some ac∧Jr P slots fn.results.toList=some rs∧
  tmpsIn fn.ntmps c=true∧(∀t∈slots,t<fn.ntmps)∧slots.length<2^60∧
  sf.args=(List.range (fn.params.size+fn.nfree)).map (fun t=>idxOf t slots 0)∧sf.nslots=slots.length∧sf.results=rs∧sf.code=trC ac∧∀c',sf.rcode=some c'→c'=ac
theorem Oa:∀(l:List Value) (k:Nat) (A:Array Value) (i:Nat),(((List.range' k l.length).zip l).foldl (fun t (p,v)=>t.setIfInBounds p v) A).size=A.size∧
  (((List.range' k l.length).zip l).foldl (fun t (p,v)=>t.setIfInBounds p v) A)[i]?=if k≤i∧i<k+l.length∧i<A.size then l[i-k]? else A[i]?:=by
 intro l
 induction l with
 | nil=>intro k A i;simp;omega
 | cons v l ih=>
  intro k A i
  have e:((List.range' k (v::l).length).zip (v::l)).foldl (fun t (p,v)=>t.setIfInBounds p v) A=((List.range' (k+1) l.length).zip l).foldl (fun t (p,v)=>t.setIfInBounds p v) (A.setIfInBounds k v):=by
   simp [List.range'_succ]
  obtain⟨h1,h2⟩:=ih (k+1) (A.setIfInBounds k v) i
  rw [e]
  refine⟨by rw [h1];simp,?_⟩
  rw [h2]
  simp only [Array.size_setIfInBounds,awp]
  by_cases hk:i=k
  ·subst hk
   rw [if_neg (by omega)]
   by_cases hs:i<A.size
   ·rw [if_pos (by omega),avI hs];simp
   ·rw [if_neg (by omega),axo (aw2 hs)]
  ·rw [avH (fun e=>hk e.symm)]
   by_cases hc:k+1≤i∧i<k+1+l.length∧i<A.size
   ·rw [if_pos hc,if_pos (by omega),show i-k=(i-(k+1))+1 from by omega];simp
   ·rw [if_neg hc,if_neg (by omega)]
theorem Iu (vs:List Value)(nt:Nat):((List.range vs.length).zip vs).foldl (fun t (p,v)=>t.setIfInBounds p v) (Array.replicate (max vs.length nt) undef)=vs.toArray++Array.replicate (nt-vs.toArray.size) undef:=by
 apply awK
 intro i
 rw [axB,(Oa vs 0 _ i).2]
 simp only [Array.size_replicate,axp,true_and,avS,Nat.sub_zero]
 by_cases h:i<vs.length
 ·rw [if_pos (by omega),axN (by simpa using h)];simp
 ·rw [if_neg (by omega),Array.getElem?_append_right (by simpa using h)]
  simp only [axc,awR]
  by_cases h2:i<max vs.length nt
  ·rw [if_pos h2,if_pos (by omega)]
  ·rw [if_neg h2,if_neg (by omega)]
theorem Db {fn:Func}(h6:∀t∈slots,t<fn.ntmps)(h7:slots.length<2^60){args:List j5}{env:T j5}(hargs:ltL (m.nm ι) args)
  (hp:bZ ((List.range (fn.params.size+fn.nfree)).map fun t=>idxOf t slots 0) args (T.rep .undef slots.length .e 0)=some env):
  args.length=fn.params.size+fn.nfree∧bM ι (m.nm ι) slots env ((H8 ι args).toArray++Array.replicate (fn.ntmps-(H8 ι args).toArray.size) undef)∧
   fn.ntmps≤((H8 ι args).toArray++Array.replicate (fn.ntmps-(H8 ι args).toArray.size) undef).size:=by
 have henv0:bM ι (m.nm ι) slots (T.rep .undef slots.length .e 0) (Array.replicate (max (H8 ι args).length fn.ntmps) undef):=by
  refine⟨by have:=T.Qe j5.undef slots.length .e 0 .e;simpa using this,h7,fun t j hj=>?_⟩
  have hlt:=qG hj
  have hmem:t∈slots:=by have:=hlt.2.2;exact avG this
  have:=h6 t hmem
  refine⟨by simp;omega,.undef,?_,trivial,?_⟩
  ·rw [T.JN _ _ _ _ .e,if_neg (by omega),if_pos hlt.2.1]
  ·rw [avE,axc]
   rw [jh]
   split<;>rfl
 obtain⟨g1,g2,g3⟩:=nG (List.range (fn.params.size+fn.nfree)) args _ env _ henv0 hargs hp
 rw [axQ] at g1
 have hst:=Iu (H8 ι args) fn.ntmps
 rw [aD,g1] at hst
 rw [aD,g1] at g2 g3
 rw [hst] at g2 g3
 refine⟨g1,g2,?_⟩
 rw [Array.size_append,Array.size_replicate];omega
theorem Gq {cf:K8}(hcf:xU P G cf){dcf:jP}(hdc:aem P G dcf)(fuel:Nat)(hdraw:∀slots nt r,jD P G slots nt cf r){f:FuncId}{sf:SFn}(hf:xJ P f sf){args:List j5}{outs:List VM}(h:C8 cf dcf fuel sf args m=some outs)(hm:RM P G ι m w.heap)(hargs:ltL (m.nm ι) args):
  CallsIn Fence.wide 0 P f (H8 ι args).toArray w (bI P G ι m w outs):=by
 obtain⟨_,slots,fn,c,ac,rs,h1,h2,h3,h4,h5,h6,h7,e1,e2,e3,e4,_⟩:=hf
 obtain⟨env,hp,h⟩:=J6 h
 obtain⟨os,hos,hk⟩:=bJ h
 rw [e1,e2] at hp
 obtain⟨g1,g2,g3⟩:=Db h6 h7 hargs hp
 refine callsIn_of_wp_marks h1 h2 trivial ?_
 rw [e4] at hos
 refine ow hcf fuel (hdraw slots fn.ntmps none) c ac h3 h5 _ none env m [] ι w {tmps:=(H8 ι args).toArray++Array.replicate (fn.ntmps-(H8 ι args).toArray.size) undef,defers:=[]} os hm g2 g3 ⟨rfl,fun _ h=>by cases h⟩ ⟨rfl,fun _ h=>by cases h⟩ hos ?_
 intro o ho ι' w' a' hst' hen' hsz' hmk' hpv'
 obtain⟨vs,hvs,hsub⟩:=hk o ho
 obtain⟨x₀,env₀,m₀,k₀,pv₀⟩:=o
 rw [e3] at hvs
 rcases ou hvs with⟨hx,hl⟩ | ⟨id,hx,hl⟩ | ⟨hx,hl⟩
 ·obtain rfl:x₀=.normal:=hx
  obtain rfl:pv₀=none:=kE hpv' (by intro e;cases e)
  exact wK hdc h4 k₀ m₀ ι' w' env₀ a'.tmps a'.defers none vs hst' hen' hmk' (fun x hx=>by cases hx) hl hsub
 ·cases hl
 ·obtain rfl:x₀=.ret:=hx
  have:=wK hdc h4 k₀ m₀ ι' w' env₀ a'.tmps a'.defers pv₀ vs hst' hen' hmk' (fun x hx=>(hpv' x hx).2) hl hsub
  cases pv₀<;>exact this
end
inductive Dep (ops:Array Oper):Nat→Nat→Prop
 | edge {i:Nat} {o:Oper} {e:Edge}:ops[i]?=some o→e∈o.after→Region.binds .any e=true→Dep ops i e.on
 | more {i:Nat} {o:Oper} {e:Edge} {j:Nat}:ops[i]?=some o→e∈o.after→Region.binds .any e=true→Dep ops e.on j→Dep ops i j
theorem Dep.trans {ops:Array Oper}{i j k:Nat}(h:Dep ops i j)(g:Dep ops j k):Dep ops i k:=by
 induction h with
 | edge h1 h2 h3=>exact .more h1 h2 h3 g
 | more h1 h2 h3 _ ih=>exact .more h1 h2 h3 (ih g)
theorem Kz (acc:List Nat)(j:Nat):∀(l:List Edge) (s:Nat),Nat.testBit (l.foldl (fun s x=>if Region.binds .any x then s ||| (1 <<< x.on) ||| (acc.getD x.on 0) else s) s) j=true→
  Nat.testBit s j=true∨∃e∈l,Region.binds .any e=true∧(j=e.on∨Nat.testBit (acc.getD e.on 0) j=true):=by
 intro l
 induction l with
 | nil=>intro s h;exact .inl h
 | cons e l ih=>
  intro s h
  rw [ax4] at h
  rcases ih _ h with h | ⟨e',h1,h2⟩
  ·cases hb:Region.binds .any e with
   | false=>rw [hb] at h;exact .inl (by simpa using h)
   | true=>
    rw [hb] at h
    simp only [if_true,Nat.testBit_or,awO] at h
    rcases h with (h | h) | h
    ·exact .inl h
    ·refine .inr ⟨e,by simp,hb,.inl ?_⟩
     rw [Nat.one_shiftLeft,Nat.testBit_two_pow] at h
     exact (of_decide_eq_true h).symm
    ·exact .inr ⟨e,by simp,hb,.inr h⟩
  ·exact .inr ⟨e',awc _ h1,h2⟩
theorem kW (ops:Array Oper)(i j:Nat)(h:mOf (masks ops.toList) i j=true):Dep ops i j:=by
 have key:∀(l:List Oper) (acc:List Nat),(∀k,k<l.length→ops[acc.length+k]?=l[k]?)→(∀i j,Nat.testBit (acc.getD i 0) j=true→Dep ops i j)→
   ∀i j,Nat.testBit ((l.foldl (fun acc o=>acc ++ [bitsOf o.after acc]) acc).getD i 0) j=true→Dep ops i j:=by
  intro l
  induction l with
  | nil=>intro acc _ h;exact h
  | cons o l ih=>
   intro acc hops h
   rw [ax4]
   refine ih _ (fun k hk=>?_) ?_
   ·have:=hops (k+1) (by simpa using hk)
    simpa [avw,Nat.add_comm 1] using this
   ·intro i j hb
    by_cases hi:i<acc.length
    ·refine h i j ?_
     simpa [avF,avY hi] using hb
    ·by_cases hi2:i=acc.length
     ·subst hi2
      have hb:Nat.testBit (bitsOf o.after acc) j=true:=by simpa [avF] using hb
      have ho:ops[acc.length]?=some o:=by have:=hops 0 (by simp);simpa using this
      rcases Kz acc j o.after.toList 0 hb with h0 | ⟨e,h1,h2,h3⟩
      ·simp at h0
      ·rcases h3 with rfl | h3
       ·exact .edge ho (by simpa using h1) h2
       ·exact .more ho (by simpa using h1) h2 (h _ _ h3)
     ·have:(acc ++ [bitsOf o.after acc]).getD i 0=0:=by
       rw [avF,awM (by simp;omega)];rfl
      rw [this] at hb;simp at hb
 refine key ops.toList [] (fun k hk=>by simp) (fun i j hb=>by simp at hb) i j h
def EZ (ops:Array Oper)(listed:Array Bool):Prop:=∀i o,listed.getD i false=true→ops[i]?=some o→∀e∈o.after,Region.binds .any e=true→listed.getD e.on false=true
theorem Dep.listed {ops:Array Oper}{listed:Array Bool}(hc:EZ ops listed){i j:Nat}(h:Dep ops i j):
  (∀o,ops[i]?=some o→∀e∈o.after,Region.binds .any e=true→listed.getD e.on false=true)→listed.getD j false=true:=by
 induction h with
 | edge ho he hb=>intro hi;exact hi _ ho _ he hb
 | more ho he hb _ ih=>intro hi;exact ih fun o' ho'=>hc _ o' (hi _ ho _ he hb) ho'
theorem sQ:∀{l:List Nat},JM l=true→l.Nodup
 | [],_=>List.nodup_nil
 | x::l,h=>by
  simp only [JM,avv,Bool.not_eq_true'] at h
  refine axw.2 ⟨fun hx=>?_,sQ h.2⟩
  have:=h.1
  simp [hx] at this
theorem Gr {ms:List Nat}{ops:Array Oper}:∀{l before:List (Nat×Inst)},qF ms ops l before=true→∀p y,l[p]?=some y→um ms ops y.1 y.2 ((l.take p).reverse++before)=true
 | [],_,_,p,y,hp=>by simp at hp
 | z::l,before,h,p,y,hp=>by
  simp only [qF,avv] at h
  cases p with
  | zero=>simp at hp;subst hp;simpa using h.1
  | succ p=>
   have:=Gr h.2 p y (by simpa using hp)
   simpa using this
structure DS where
 ls:List j5
 env:T j5
 m:Mem
 gs:List Mem
def RdB (o:ROp)(g:Option (Opd×Bool))(s:DS)(v:j5):Prop:=
 g=none∧∃y id off len cp,o=.bytesStr y∧trO y s.ls s.env=.slice id off len cp∧isVoid ((hd s.m s.gs).get id)=true∧isCells (s.m.get id)=true∧aM (trO y) s.ls s.env s.m=some v
def DStep (cf:K8)(b:Nat)(x:Nat×Inst)(s s':DS):Prop:=
 ∃v,s'.ls=v::s.ls∧s'.env=trD x.2.dst v s.env∧match x.2.op with
  | .p o=>Jp x.2.guard (trP o) s.ls s.env=some v∧s'.m=s.m∧s'.gs=s.gs
  | .r o=>((Ga x.2.guard (trR o) s.ls s.env (hd s.m s.gs)=some v∧stable (Ga x.2.guard (trR o)) s.ls s.env v x.1 (tl s.gs)=true)∨RdB o x.2.guard s v)∧True∧s'.m=s.m∧s'.gs=s.gs
  | .a o=>∃r,RJ x.2.guard (trL o) s.ls s.env (b+x.1)=some r∧v=r.1∧isVoid (s.m.get (b+x.1))=true∧dI (b+x.1) s.gs=true∧s'.m=RN s.m (b+x.1) r.2∧s'.gs=s.gs
  | .e o=>NC x.2.guard (trE o) cf s.ls s.env s.m=some [⟨v,s'.m⟩]∧s'.gs=s'.m::s.gs∧¬ ∃x,v=.pan x
theorem Sk {α β:Type}{x:Option (List α)}{f:α→Option β}{r:β}(h:RL x f=some r):∃a,x=some [a]∧f a=some r:=by
 cases x with
 | none=>cases h
 | some l=>match l,h with
  | [a],h=>exact⟨a,rfl,h⟩
  | [],h=>cases h
  | _ :: _ :: _,h=>cases h
def GStep (x:Nat×Inst)(s s':DS):Prop:=
 ∃v,s'.ls=v::s.ls∧s'.env=trD x.2.dst v s.env∧s'.m=s.m∧s'.gs=(if isE x.2=true then s'.m::s.gs else s.gs)∧∀o,x.2.op≠.a o
def KA (cf:K8)(b:Nat)(x:Nat×Inst)(s s':DS):Prop:=DStep cf b x s s'∨GStep x s s'
theorem KC {cf:K8}{b:Nat}{x:Nat×Inst}{gh:GF}{k:DC}{s:DS}{outs:List EM}(h:afl x.1 x.2.op x.2.dst x.2.guard gh k cf b s.ls s.env s.m s.gs=some outs):
  (∃s',DStep cf b x s s'∧k cf b s'.ls s'.env s'.m s'.gs=some outs)∨
  ∃eo y m',x.2.op=.e eo∧NC x.2.guard (trE eo) cf s.ls s.env s.m=some [⟨.pan y,m'⟩]∧gh (.undef::s.ls) (trD x.2.dst .undef s.env)=true∧outs=[⟨s.env,m',some y,[]⟩]:=by
 obtain⟨c,op,dst,guard⟩:=x
 unfold DStep
 cases op with
 | p o=>
  obtain⟨v,h1,h⟩:=J6 h
  exact .inl ⟨⟨v::s.ls,trD dst v s.env,s.m,s.gs⟩,⟨v,rfl,rfl,h1,rfl,rfl⟩,h⟩
 | r o=>
  have usual:∀{f:RF},f=Ga guard (trR o)→dcR f c (trD dst) k cf b s.ls s.env s.m s.gs=some outs→(∃s':DS,(∃v,s'.ls=v::s.ls∧s'.env=trD dst v s.env∧((Ga guard (trR o) s.ls s.env (hd s.m s.gs)=some v∧stable (Ga guard (trR o)) s.ls s.env v c (tl s.gs)=true)∨RdB o guard s v)∧True∧s'.m=s.m∧s'.gs=s.gs)∧k cf b s'.ls s'.env s'.m s'.gs=some outs):=by
   rintro f rfl h
   obtain⟨v,h1,h⟩:=J6 h
   obtain⟨h2,h⟩:=L6 h
   exact⟨⟨v::s.ls,trD dst v s.env,s.m,s.gs⟩,⟨v,rfl,rfl,.inl ⟨h1,h2⟩,trivial,rfl,rfl⟩,h⟩
  change afk c o dst guard k cf b s.ls s.env s.m s.gs=some outs at h
  unfold afk at h
  split at h
  ·rename_i y
   unfold Yp at h
   split at h
   ·rename_i id off len cp hv
    cases hvo:isVoid ((hd s.m s.gs).get id) with
    | false=>rw [hvo] at h;exact .inl (usual rfl h)
    | true=>
     rw [hvo] at h
     obtain⟨h1,h⟩:=L6 h
     obtain⟨v,h2,h⟩:=J6 h
     exact .inl ⟨⟨v::s.ls,trD dst v s.env,s.m,s.gs⟩,⟨v,rfl,rfl,.inr ⟨rfl,y,id,off,len,cp,rfl,hv,hvo,h1,h2⟩,trivial,rfl,rfl⟩,h⟩
   ·exact .inl (usual rfl h)
  ·exact .inl (usual rfl h)
 | a o=>
  obtain⟨r,h1,h⟩:=J6 h
  obtain⟨h2,h⟩:=L6 h
  obtain⟨h3,h⟩:=L6 h
  exact .inl ⟨⟨r.1::s.ls,trD dst r.1 s.env,RN s.m (b+c) r.2,s.gs⟩,⟨r.1,rfl,rfl,r,h1,rfl,h2,h3,rfl,rfl⟩,h⟩
 | e o=>
  obtain⟨r,h1,h⟩:=Sk h
  obtain⟨v,m'⟩:=r
  have h:kK v (fun x=>bi (gh (.undef::s.ls) (trD dst .undef s.env)) (some [⟨s.env,m',some x,[]⟩]) none) (k cf b (v::s.ls) (trD dst v s.env) m' (m'::s.gs))=some outs:=h
  by_cases hx:∃x,v=.pan x
  ·obtain⟨x,rfl⟩:=hx
   have h:bi (gh (.undef::s.ls) (trD dst .undef s.env)) (some [(⟨s.env,m',some x,[]⟩:EM)]) none=some outs:=h
   obtain⟨h2,h⟩:=L6 h
   cases h
   exact .inr ⟨o,x,m',rfl,h1,h2,rfl⟩
  ·rw [Kq hx] at h
   exact .inl ⟨⟨v::s.ls,trD dst v s.env,m',m'::s.gs⟩,⟨v,rfl,rfl,h1,rfl,hx⟩,h⟩
def Waits (x:Nat×Inst)(p:Nat)(A:Nat→Prop):Prop:=(∃o,x.2.op=.e o)∨∃k,(Opd.loc k∈Jv x.2.op∨∃wt,x.2.guard=some (.loc k,wt))∧A k
theorem zJ {ds:List Bool}{i:Inst}(h:BZ ds i=true):∃k,(Opd.loc k∈Jv i.op∨∃wt,i.guard=some (.loc k,wt))∧ds.getD k false=true:=by
 have key:∀y,RO ds y=true→∃k,y=.loc k∧ds.getD k false=true:=fun y hy=>by
  cases y with
  | loc k=>exact⟨k,rfl,hy⟩
  | slot j=>cases hy
  | con c=>cases hy
 unfold BZ at h
 rcases Bool.or_eq_true_iff.1 h with h | h
 ·obtain⟨y,hy,h⟩:=List.any_eq_true.1 h
  obtain⟨k,rfl,hk⟩:=key y h
  exact⟨k,.inl hy,hk⟩
 ·cases hg:i.guard with
  | none=>rw [hg] at h;cases h
  | some q=>
   obtain⟨y,wt⟩:=q
   rw [hg] at h
   obtain⟨k,rfl,hk⟩:=key y h
   exact⟨k,.inr ⟨wt,rfl⟩,hk⟩
theorem Ob {cf:K8}{b:Nat}:∀(l:List (Nat×Inst)) (ds:List Bool) (s:DS),Gb l ds s.ls s.env=true→
  ∃(S:Nat→DS) (D:Nat→Bool),S 0=s∧∀p x,l[p]?=some x→x.2.dst=none∧((D p=false∧DStep cf b x (S p) (S (p+1)))∨
   (D p=true∧GStep x (S p) (S (p+1))∧Waits x p fun k=>(∃q,q<p∧k=p-1-q∧D q=true)∨(p≤k∧ds.getD (k-p) false=true))):=by
 intro l
 induction l with
 | nil=>intro ds s _;exact⟨fun _=>s,fun _=>false,rfl,fun p x hp=>by simp at hp⟩
 | cons x l ih=>
  intro ds s h
  have step:∀(d0:Bool) (s1:DS),Gb l (d0::ds) s1.ls s1.env=true→x.2.dst=none→((d0=false∧DStep cf b x s s1)∨(d0=true∧GStep x s s1∧Waits x 0 fun k=>ds.getD k false=true))→
    ∃(S:Nat→DS) (D:Nat→Bool),S 0=s∧∀p y,(x::l)[p]?=some y→y.2.dst=none∧((D p=false∧DStep cf b y (S p) (S (p+1)))∨
     (D p=true∧GStep y (S p) (S (p+1))∧Waits y p fun k=>(∃q,q<p∧k=p-1-q∧D q=true)∨(p≤k∧ds.getD (k-p) false=true))):=by
   intro d0 s1 h1 hd h2
   obtain⟨S,D,g1,g2⟩:=ih (d0::ds) s1 h1
   refine⟨fun p=>match p with | 0=>s | p+1=>S p,fun p=>match p with | 0=>d0 | p+1=>D p,rfl,fun p y hp=>?_⟩
   cases p with
   | zero=>
    simp at hp;subst hp
    refine⟨hd,?_⟩
    show (d0=false∧DStep cf b x s (S 0))∨(d0=true∧GStep x s (S 0)∧_)
    rw [g1]
    rcases h2 with h2 | ⟨h2,h3,h4⟩
    ·exact .inl h2
    ·refine .inr ⟨h2,h3,?_⟩
     rcases h4 with h4 | ⟨k,h4,h5⟩
     ·exact .inl h4
     ·exact .inr ⟨k,h4,.inr ⟨axp _,by simpa using h5⟩⟩
   | succ p=>
    obtain⟨q1,q2⟩:=g2 p y (by simpa using hp)
    refine⟨q1,?_⟩
    rcases q2 with q2 | ⟨q2,q3,q4⟩
    ·exact .inl q2
    ·refine .inr ⟨q2,q3,?_⟩
     rcases q4 with q4 | ⟨k,q4,q5⟩
     ·exact .inl q4
     ·refine .inr ⟨k,q4,?_⟩
      rcases q5 with⟨q,r1,r2,r3⟩ | ⟨r1,r2⟩
      ·exact .inl ⟨q+1,by omega,by omega,r3⟩
      ·cases hk:k-p with
       | zero=>
        rw [hk] at r2
        exact .inl ⟨0,by omega,by omega,by simpa using r2⟩
       | succ j=>
        rw [hk] at r2
        exact .inr ⟨by omega,by rw [show k-(p+1)=j from by omega];simpa using r2⟩
  unfold Gb at h
  cases hd:x.2.dst with
  | some j=>rw [hd] at h;cases h
  | none=>
   rw [hd] at h
   have hsn:∀v:j5,trD x.2.dst v s.env=s.env:=fun v=>by rw [hd];rfl
   cases ho:x.2.op with
   | e o=>
    rw [ho] at h
    exact step true ⟨.undef::s.ls,s.env,s.m,s.m::s.gs⟩ h hd (.inr ⟨rfl,⟨.undef,rfl,(hsn _).symm,rfl,by simp [isE,ho],by simp [ho]⟩,.inl ⟨o,ho⟩⟩)
   | a o=>rw [ho] at h;cases h
   | r o=>
    rw [ho] at h
    cases hdd:BZ ds x.2 with
    | false=>simp only [hdd,cond_false] at h;cases h
    | true=>
     simp only [hdd,cond_true] at h
     exact step true ⟨.undef::s.ls,s.env,s.m,s.gs⟩ h hd (.inr ⟨rfl,⟨.undef,rfl,(hsn _).symm,rfl,by simp [isE,ho],by simp [ho]⟩,.inr (zJ hdd)⟩)
   | p o=>
    rw [ho] at h
    cases hdd:BZ ds x.2 with
    | true=>
     simp only [hdd,cond_true] at h
     exact step true ⟨.undef::s.ls,s.env,s.m,s.gs⟩ h hd (.inr ⟨rfl,⟨.undef,rfl,(hsn _).symm,rfl,by simp [isE,ho],by simp [ho]⟩,.inr (zJ hdd)⟩)
    | false=>
     simp only [hdd,cond_false] at h
     have h:(Option.rec false (fun v=>Gb l (false::ds) (v::s.ls) s.env) (Jp x.2.guard (trP o) s.ls s.env):Bool)=true:=h
     cases hv:Jp x.2.guard (trP o) s.ls s.env with
     | none=>rw [hv] at h;cases h
     | some v=>
      rw [hv] at h
      refine step false ⟨v::s.ls,s.env,s.m,s.gs⟩ h hd (.inl ⟨rfl,v,rfl,(hsn _).symm,?_⟩)
      rw [ho];exact⟨hv,rfl,rfl⟩
theorem KD {o:AOp}{l:List (Nat×Inst)}{ls:List j5}{env:T j5}(h:aee o l ls env=true):Gb l [true] ls env=true:=by
 have key:(bif PY l [true] then Gb l [true] else ghF) ls env=true→Gb l [true] ls env=true:=fun h=>by
  cases hg:PY l [true] with
  | true=>rw [hg] at h;exact h
  | false=>rw [hg] at h;cases h
 unfold aee at h
 split at h<;>first | exact key h | cases h
structure afs (cf:K8)(b:Nat)(l:List (Nat×Inst))(S:Nat→DS)(D:Nat→Bool)(N:Nat)(y:j5)(m':Mem):Prop where
 at_:∃x eo,l[N]?=some x∧x.2.op=.e eo∧NC x.2.guard (trE eo) cf (S N).ls (S N).env (S N).m=some [⟨.pan y,m'⟩]
 lo:∀p,p<N→D p=false
 here:D N=true
 step:∀p x,l[p]?=some x→(D p=false∧DStep cf b x (S p) (S (p+1)))∨(N≤p∧D p=true∧GStep x (S p) (S (p+1))∧(p=N∨Waits x p fun k=>∃q,q<p∧k=p-1-q∧D q=true))
 dst:∀p x,N<p→l[p]?=some x→x.2.dst=none
theorem Iw {cf:K8}{b:Nat}:∀(l:List (Nat×Inst)) (s:DS) (outs:List EM),zl l cf b s.ls s.env s.m s.gs=some outs→
  ∃S:Nat→DS,S 0=s∧(((∀p x,l[p]?=some x→DStep cf b x (S p) (S (p+1)))∧outs=[⟨(S l.length).env,(S l.length).m,none,[]⟩])∨
   ∃N D y m',afs cf b l S D N y m'∧outs=[⟨(S N).env,m',some y,[]⟩]):=by
 intro l
 induction l with
 | nil=>
  intro s outs h
  have h:some [EM.mk s.env s.m none []]=some outs:=h
  cases h
  exact⟨fun _=>s,rfl,.inl ⟨fun p x hp=>by simp at hp,rfl⟩⟩
 | cons x l ih=>
  intro s outs h
  have h:afl x.1 x.2.op x.2.dst x.2.guard (aee x.2.op l) (zl l) cf b s.ls s.env s.m s.gs=some outs:=h
  rcases KC h with⟨s',h1,h2⟩ | ⟨eo,y,m',h1,h2,h3,h4⟩
  ·obtain⟨S,g1,g2⟩:=ih s' outs h2
   have hz:DStep cf b x s (S 0):=by rw [g1];exact h1
   refine⟨fun p=>match p with | 0=>s | p+1=>S p,rfl,?_⟩
   rcases g2 with⟨g2,g3⟩ | ⟨N,D,y,m',g2,g3⟩
   ·refine .inl ⟨fun p y hp=>?_,by simpa using g3⟩
    cases p with
    | zero=>simp at hp;subst hp;exact hz
    | succ p=>exact g2 p y (by simpa using hp)
   ·refine .inr ⟨N+1,fun p=>match p with | 0=>false | p+1=>D p,y,m',⟨?_,fun p hp=>?_,g2.here,fun p z hp=>?_,fun p z hN hp=>?_⟩,g3⟩
    ·obtain⟨z,eo,q1,q2,q3⟩:=g2.at_
     exact⟨z,eo,by simpa using q1,q2,q3⟩
    ·cases p with
     | zero=>rfl
     | succ p=>exact g2.lo p (by omega)
    ·cases p with
     | zero=>simp at hp;subst hp;exact .inl ⟨rfl,hz⟩
     | succ p=>
      rcases g2.step p z (by simpa using hp) with q | ⟨q1,q2,q3,q4⟩
      ·exact .inl q
      ·refine .inr ⟨by omega,q2,q3,?_⟩
       rcases q4 with rfl | q4 | ⟨k,q4,q,r1,r2,r3⟩
       ·exact .inl rfl
       ·exact .inr (.inl q4)
       ·exact .inr (.inr ⟨k,q4,q+1,by omega,by omega,r3⟩)
    ·cases p with
     | zero=>omega
     | succ p=>exact g2.dst p z (by omega) (by simpa using hp)
  ·have hE:isE x.2=true:=by simp [isE,h1]
   obtain⟨S,D,g1,g2⟩:=Ob (cf:=cf) (b:=b) l [true] ⟨.undef::s.ls,trD x.2.dst .undef s.env,s.m,s.m::s.gs⟩ (KD h3)
   refine⟨fun p=>match p with | 0=>s | p+1=>S p,rfl,.inr ⟨0,fun p=>match p with | 0=>true | p+1=>D p,y,m',⟨⟨x,eo,rfl,h1,h2⟩,fun p hp=>by omega,rfl,fun p z hp=>?_,fun p z hN hp=>?_⟩,h4⟩⟩
   ·cases p with
    | zero=>
     simp at hp;subst hp
     refine .inr ⟨D5 _,rfl,?_,.inl rfl⟩
     show GStep x s (S 0)
     rw [g1]
     exact⟨.undef,rfl,rfl,rfl,by simp [hE],by simp [h1]⟩
    | succ p=>
     obtain⟨_,q⟩:=g2 p z (by simpa using hp)
     rcases q with q | ⟨q1,q2,q3⟩
     ·exact .inl q
     ·refine .inr ⟨by omega,q1,q2,.inr ?_⟩
      rcases q3 with q3 | ⟨k,q3,q4⟩
      ·exact .inl q3
      ·refine .inr ⟨k,q3,?_⟩
       rcases q4 with⟨q,r1,r2,r3⟩ | ⟨r1,r2⟩
       ·exact⟨q+1,by omega,by omega,r3⟩
       ·cases hk:k-p with
        | zero=>exact⟨0,by omega,by omega,rfl⟩
        | succ j=>rw [hk] at r2;simp at r2
   ·cases p with
    | zero=>omega
    | succ p=>exact (g2 p z (by simpa using hp)).1
def gK (ops:Array Oper)(ord:List Nat)(p:Nat):List (Option Nat):=((ord.take p).map fun i=>(ops[i]?).bind (·.dst)).reverse
theorem KE {P:Program}{slots:List Nat}{ops:Array Oper}:∀(l:List Nat) (done:List (Option Nat)) (insts:List Inst),jQ P slots ops done l=some insts→
  insts.length=l.length∧∀p i,l[p]?=some i→∃x o,insts[p]?=some x∧ops[i]?=some o∧JL P slots (gK ops l p++done) ops i=some (x,o.dst):=by
 intro l
 induction l with
 | nil=>intro done insts h;simp only [jQ,U0] at h;subst h;exact⟨rfl,fun p i hp=>by simp at hp⟩
 | cons j l ih=>
  intro done insts h
  obtain⟨x,d,l',hx,hl,rfl⟩:=lQ h
  obtain⟨h1,h2⟩:=ih _ _ hl
  obtain⟨o,ho,rfl,_⟩:=qX hx
  refine⟨by simp [h1],fun p i hp=>?_⟩
  cases p with
  | zero=>simp at hp;subst hp;exact⟨x,o,rfl,ho,by simpa [gK] using hx⟩
  | succ p=>
   obtain⟨x',o',g1,g2,g3⟩:=h2 p i (by simpa using hp)
   refine⟨x',o',by simpa using g1,g2,?_⟩
   have:gK ops (j::l) (p+1)++done=gK ops l p++o.dst::done:=by simp [gK,ho]
   rw [this];exact g3
theorem Fa (ms:List Nat):∀(l:List (Nat×Inst)) (effs:List Nat) (nal:Nat),(numbered ms l effs nal).length=l.length∧
  ∀p i x,l[p]?=some (i,x)→∃c,(numbered ms l effs nal)[p]?=some (c,x)∧
   (isR x=true→c=(((((l.take p).filter fun y=>isE y.2).map (·.1)).reverse++effs).takeWhile fun e=>!mOf ms i e).length)∧
   (isR x=false→c=nal+((l.take p).filter fun y=>isA y.2).length):=by
 intro l
 induction l with
 | nil=>intro effs nal;exact⟨rfl,fun p i x hp=>by simp at hp⟩
 | cons z l ih=>
  intro effs nal
  obtain⟨j,y⟩:=z
  obtain⟨h1,h2⟩:=ih (if isE y then j::effs else effs) (if isA y then nal+1 else nal)
  refine⟨by simp [numbered,h1],fun p i x hp=>?_⟩
  cases p with
  | zero=>
   simp at hp
   obtain⟨rfl,rfl⟩:=hp
   exact⟨_,rfl,fun h=>by simp [afn,h],fun h=>by simp [afn,h]⟩
  | succ p=>
   obtain⟨c,g1,g2,g3⟩:=h2 p i x (by simpa using hp)
   refine⟨c,by simpa [numbered] using g1,fun h=>?_,fun h=>?_⟩
   ·rw [g2 h]
    cases hy:isE y<;>simp [hy]
   ·rw [g3 h]
    cases hy:isA y<;>simp [hy];omega
def Mem.sub (m m':Mem):Prop:=∀i b,m.get i=some b→iV b=false→m'.get i=some b
theorem sS {β:Type}{m m':Mem}(h:m.sub m'){i:Nat}{k:Nat→Nat→T (List j5)→Option β}{r:β}(hv:aO (m.get i) k=some r):aO (m'.get i) k=some r:=by
 obtain⟨rs,n,rows,h1,h2⟩:=kU hv
 rw [h i _ h1 rfl];exact h2
theorem Fb {β:Type}{m m':Mem}(h:m.sub m'){i:Nat}{k:List (j5×j5)→Option β}{r:β}(hv:vEs (m.get i) k=some r):vEs (m'.get i) k=some r:=by
 obtain⟨es,h1,h2⟩:=wo hv
 rw [h i _ h1 rfl];exact h2
theorem uK {m m':Mem}(h:m.sub m'){i off n:Nat}{l:List j5}(hv:R4 m i off n=some l):R4 m' i off n=some l:=by
 cases n with
 | zero=>exact hv
 | succ n=>exact sS h (k:=fun rs k rows=>M5 rs k rows (n+1) off) hv
theorem Sl {m m':Mem}(h:m.sub m'){o:ROp}{ls:List j5}{env:T j5}{v:j5}(hv:trR o ls env m=some v):trR o ls env m'=some v:=by
 cases o with
 | load size x=>
  cases size with
  | none=>
   obtain⟨id,off,h1,hv⟩:=iQ hv
   have h1:trO x ls env=.ptr id off:=h1
   show sj (trO x ls env) _=_
   rw [h1];exact sS h hv
  | some k=>
   obtain⟨id,off,h1,hv⟩:=iQ hv
   have h1:trO x ls env=.ptr id off:=h1
   show sj (trO x ls env) _=_
   rw [h1];exact sS h hv
 | look kk z ok x y=>
  rcases sF hv with⟨h1,hv⟩ | ⟨id,h1,hv⟩
  ·have h1:trO x ls env=.nilMap:=h1
   show BO (trO x ls env) _ _=_
   rw [h1];exact hv
  ·have h1:trO x ls env=.map id:=h1
   show BO (trO x ls env) _ _=_
   rw [h1];exact Fb h hv
 | lenM x=>
  rcases sF hv with⟨h1,hv⟩ | ⟨id,h1,hv⟩
  ·have h1:trO x ls env=.nilMap:=h1
   show BO (trO x ls env) _ _=_
   rw [h1];exact hv
  ·have h1:trO x ls env=.map id:=h1
   show BO (trO x ls env) _ _=_
   rw [h1];exact Fb h hv
 | bytesStr x=>
  rcases uq hv with⟨h1,hv⟩ | ⟨id,off,len,cap,h1,hv⟩ | ⟨id,off,len,cap,h1,hv⟩
  ·have h1:trO x ls env=.nilSlice:=h1
   show vSl (trO x ls env) _ _ _=_
   rw [h1];exact hv
  ·have h1:trO x ls env=.slice id off len cap:=h1
   show vSl (trO x ls env) _ _ _=_
   rw [h1]
   obtain⟨l,h2,hv⟩:=J6 hv
   show ob (R4 m' id off len) _=_
   rw [uK h h2];exact hv
  ·have h1:trO x ls env=.sliceU id off len cap:=h1
   show vSl (trO x ls env) _ _ _=_
   rw [h1]
   obtain⟨l,h2,hv⟩:=J6 hv
   show ob (R4 m' id off len) _=_
   rw [uK h h2];exact hv
 | entry x=>
  obtain⟨id,off,h1,hv⟩:=iQ hv
  have h1:trO x ls env=.ptr id off:=h1
  show sj (trO x ls env) _=_
  rw [h1]
  obtain⟨h2,hv⟩:=L6 hv
  show bi (Nat.beq off 0) _ none=_
  rw [h2]
  rcases Aw hv with⟨_,_,_,hv⟩ | ⟨mp,since,seen,h3,hv⟩
  ·cases hv
  ·show Ny (m'.get id) _ _=_
   rw [h id _ h3 rfl]
   cases seen with
   | nil=>cases hv
   | cons i t=>exact Fb h hv
theorem jE {f:j5→j5→Bool}(hf:∀x y,f x y=true→x=y):∀a b:List j5,Ah f a b=true→a=b
 | [],[],_=>rfl
 | [],y::b,h=>by cases h
 | x::a,[],h=>by cases h
 | x::a,y::b,h=>by
  have h:bi (f x y) (Ah f a b) false=true:=h
  cases hx:f x y with
  | false=>rw [hx] at h;cases h
  | true=>rw [hx] at h;rw [hf x y hx,jE hf a b h]
theorem gM {a b:Bool}(h:bi a b false=true):a=true∧b=true:=by cases a<;>cases b<;>first | exact⟨rfl,rfl⟩ | cases h
theorem gY:∀(n:Nat) (x y:j5),dH n x y=true→x=y:=by
 intro n
 induction n with
 | zero=>intro x y h;cases h
 | succ n ih=>
  intro x y h
  cases x with
  | bool a=>cases y<;>first | (cases h;done) | (have h:BP _ _=true:=h;rw [vW] at h;rw [eq_of_beq h])
  | int k a=>
   cases y<;>first | (cases h;done) | skip
   obtain⟨h1,h2⟩:=gM (a:=kEq _ _) (b:=xK _ _) h
   rw [JV] at h1;rw [lD] at h2
   rw [of_decide_eq_true h1,eq_of_beq h2]
  | str a=>cases y<;>first | (cases h;done) | (have h:strEq _ _=true:=h;rw [vo] at h;rw [eq_of_beq h])
  | ptr a b=>
   cases y<;>first | (cases h;done) | skip
   obtain⟨h1,h2⟩:=gM (a:=Nat.beq _ _) (b:=Nat.beq _ _) h
   rw [avt h1,avt h2]
  | slice a b c d=>
   cases y<;>first | (cases h;done) | skip
   obtain⟨h1,h⟩:=gM (a:=Nat.beq _ _) h
   obtain⟨h2,h⟩:=gM (a:=Nat.beq _ _) h
   obtain⟨h3,h4⟩:=gM (a:=Nat.beq _ _) h
   rw [avt h1,avt h2,avt h3,avt h4]
  | sliceU a b c d=>
   cases y<;>first | (cases h;done) | skip
   obtain⟨h1,h⟩:=gM (a:=Nat.beq _ _) h
   obtain⟨h2,h⟩:=gM (a:=Nat.beq _ _) h
   obtain⟨h3,h4⟩:=gM (a:=Nat.beq _ _) h
   rw [avt h1,avt h2,avt h3,avt h4]
  | map a=>cases y<;>first | (cases h;done) | (have h:Nat.beq _ _=true:=h;rw [avt h])
  | func fn a b=>
   cases fn<;>cases y<;>first | (cases h;done) | skip
   all_goals
   rename_i f fn' c d
   cases fn'<;>first | (cases h;done) | skip
   obtain⟨h1,h⟩:=gM (a:=Nat.beq _ _) h
   obtain⟨h2,h3⟩:=gM h
   rw [avt h1,jE ih _ _ h2,jE ih _ _ h3]
  | iface t a=>
   cases y<;>first | (cases h;done) | skip
   obtain⟨h1,h2⟩:=gM (a:=Nat.beq _ _) h
   rw [avt h1,ih _ _ h2]
  | agg a=>cases y<;>first | (cases h;done) | (rw [jE ih _ _ h])
  | tuple a=>cases y<;>first | (cases h;done) | (rw [jE ih _ _ h])
  | _=>cases y<;>first | rfl | (cases h;done)
theorem wL {f:RF}{ls:List j5}{env:T j5}{v:j5}:∀{n:Nat} {gs:List Mem},stable f ls env v n gs=true→∀k,k<n→∃g,gs[k]?=some g∧f ls env g=some v
 | 0,_,_,k,hk=>by omega
 | n+1,[],h,k,hk=>by cases h
 | n+1,g::gs,h,k,hk=>by
  have h:bi (Option.rec false (fun u=>dH 100 u v) (f ls env g)) (stable f ls env v n gs) false=true:=h
  obtain⟨h1,h2⟩:=gM h
  cases k with
  | zero=>
   refine⟨g,rfl,?_⟩
   cases hf:f ls env g with
   | none=>rw [hf] at h1;cases h1
   | some u=>rw [hf] at h1;rw [gY 100 u v h1]
  | succ k=>
   obtain⟨g',h3,h4⟩:=wL h2 k (by omega)
   exact⟨g',by simpa using h3,h4⟩
theorem qd {b:Option Blk}(h:isVoid b=true):b=some .void:=by
 unfold isVoid at h
 split at h
 ·rfl
 ·cases h
theorem uL {i:Nat}:∀{gs:List Mem},dI i gs=true→∀g∈gs,g.get i=some .void
 | [],_,g,hg=>by cases hg
 | x::gs,h,g,hg=>by
  obtain⟨h1,h2⟩:=gM (a:=isVoid (x.get i)) (b:=dI i gs) h
  rcases avL.1 hg with rfl | hg
  ·exact qd h1
  ·exact uL h2 g hg
section
variable {P:Program}{G:Mem}{ι:Inj}{m:Mem}{w:World}
theorem Dc (m:Mem):reserve 0 m=m:=rfl
theorem Df (n:Nat)(m:Mem):reserve (n+1) m=reserve n (m.new .void):=rfl
theorem AX (h:RM P G ι m w.heap):Step P G ι m w ι (m.new .void) w:=by
 have hget:=Mem.T9 h.ok .void
 have hne:∀i x,m.get i=some x→i≠m.next:=fun i x hx e=>by have:=Mem.M8 h.ok hx;omega
 have hhas:∀i,m.has i→(m.new .void).has i:=fun i ⟨x,hx,hv⟩=>⟨x,by rw [hget,if_neg (hne i x hx)];exact hx,hv⟩
 have hold:∀i x,(m.new .void).get i=some x→aV x=true→m.get i=some x:=fun i x hx hl=>by
  rw [hget] at hx
  split at hx
  ·cases hx;cases hl
  ·exact hx
 refine⟨⟨h.ok.push .void,?_,?_,h.glim,axS h.limn,h.gle,fun i hi=>by rw [hget,if_neg (by have:=h.glim;have:=h.limn;omega)];exact h.base i hi,fun i hi=>hhas i (h.ghas i hi),h.glob,fun i x hx hl=>h.spot i x (hold i x hx hl) hl,h.gsz⟩,
  fun _ _=>rfl,hhas,Nat.le_succ _,rfl,fun i hi=>by rw [hget,if_neg (by have:=h.limn;omega)],D5 _,fun _ _ _=>rfl,?_,rfl,rfl,rfl⟩
 ·intro i x hx
  rw [hget] at hx
  split at hx
  ·cases hx;trivial
  ·exact (h.blk i x hx).mono (n:=m.nm ι) (fun _ _=>rfl) (Mem.bU hhas fun _ _=>rfl) fun _=>rfl
 ·intro i x hi hx hl
  have ho:=h.own i x hi (hold i x hx hl) hl
  exact⟨fun j y hj hy hly=>ho.alone j y hj (hold j y hy hly) hly,ho.free⟩
 ·rintro b ⟨i,x,hi,hx,hl,rfl⟩
  exact .inl ⟨i,x,hi,hold i x hx hl,hl,rfl⟩
theorem uM:∀(n:Nat) {m:Mem},RM P G ι m w.heap→Step P G ι m w ι (reserve n m) w
 | 0,_,h=>Step.refl h
 | n+1,_,h=>(AX h).trans (uM n (AX h).rm)
structure ase (P:Program)(ι:Inj)(n:Nm)(h:Array Obj)(id:Nat)(b:Blk)(m:Mem):Prop where
 blk:fT P ι n h (ι id) b
 live:iV b=false
 alone:aV b=true→∀j y,j≠id→m.get j=some y→aV y=true→(ι j).b≠(ι id).b
 free:aV b=true→∀c e fz,h[(ι id).b]?=some (.cells c e fz)→∀k,k<c.size→¬ (fz.1≤k∧k<fz.2)
 spot:aV b=true→(ι id).spot=none
theorem Step.add {ι0:Inj}{m0:Mem}{w0:World}(hst:Step P G ι0 m0 w0 ι m w){id:Nat}{b:Blk}(hv:m.get id=some .void)(hid:m.lim≤id)(hl:ase P ι ((m.set id b).nm ι) w.heap id b m)
  (hnew:aV b=true→w0.heap.size≤(ι id).b):Step P G ι0 m0 w0 ι (m.set id b) w:=by
 have h:=hst.rm
 have hlt:=Mem.M8 h.ok hv
 have hget:=Mem.ay h.ok hlt b
 have hnv:¬ m.has id:=fun ⟨x,h1,h2⟩=>by rw [hv] at h1;cases h1;cases h2
 have hhas:∀i,m.has i→(m.set id b).has i:=fun i hi=>by
  have hne:i≠id:=fun e=>hnv (e▸hi)
  obtain⟨x,h1,h2⟩:=hi
  exact⟨x,by rw [hget,if_neg hne];exact h1,h2⟩
 have hcase:∀i x,(m.set id b).get i=some x→(i=id∧x=b)∨(i≠id∧m.get i=some x):=fun i x hx=>by
  rw [hget] at hx
  split at hx
  ·cases hx;exact .inl ⟨by assumption,rfl⟩
  ·exact .inr ⟨by assumption,hx⟩
 refine⟨⟨h.ok.put id b hlt,?_,?_,h.glim,h.limn,h.gle,fun i hi=>by rw [hget,if_neg (by have:=h.glim;omega)];exact h.base i hi,fun i hi=>hhas i (h.ghas i hi),h.glob,fun i x hx hlx=>by
   rcases hcase i x hx with⟨rfl,rfl⟩ | ⟨_,hx⟩
   ·exact hl.spot hlx
   ·exact h.spot i x hx hlx,h.gsz⟩,
  hst.ext,fun i hi=>hhas i (hst.has i hi),hst.next,hst.lim,fun i hi=>by rw [hget,if_neg (by have:=hst.lim;omega)];exact hst.old i hi,hst.size,hst.frame,?_,hst.os,hst.out,hst.tape⟩
 ·intro i x hx
  rcases hcase i x hx with⟨rfl,rfl⟩ | ⟨hne,hx⟩
  ·exact hl.blk
  ·exact (h.blk i x hx).mono (n:=m.nm ι) (fun _ _=>rfl) (Mem.bU hhas fun _ _=>rfl) fun _=>rfl
 ·intro i x hi hx hlx
  rcases hcase i x hx with⟨rfl,rfl⟩ | ⟨hne,hx⟩
  ·refine⟨fun j y hj hy hly=>?_,hl.free hlx⟩
   rcases hcase j y hy with⟨h1,_⟩ | ⟨h1,h2⟩
   ·exact absurd h1 hj
   ·exact hl.alone hlx j y hj h2 hly
  ·rename_i hx'
   have ho:=h.own i x hi hx hlx
   refine⟨fun j y hj hy hly=>?_,ho.free⟩
   rcases hcase j y hy with⟨rfl,rfl⟩ | ⟨h1,h2⟩
   ·exact fun e=>hl.alone hly i x hne hx hlx e.symm
   ·exact ho.alone j y hj h2 hly
 ·rintro b' ⟨i,x,hi,hx,hlx,rfl⟩
  rcases hcase i x hx with⟨rfl,rfl⟩ | ⟨hne,hx⟩
  ·exact .inr (hnew hlx)
  ·exact hst.own _ ⟨i,x,hi,hx,hlx,rfl⟩
theorem Step.push {ι':Inj}{w':World}{o:Obj}(h:RM P G ι m w.heap)(hw:Zh w w' o)(hext:∀i,m.has i→ι' i=ι i):Step P G ι m w ι' m w':=by
 have hpush:∀k,k<w.heap.size→w'.heap[k]?=w.heap[k]?:=fun k hk=>by rw [hw.heap];exact (axq hk).trans (avX hk).symm
 have hnm:(m.nm ι).le (m.nm ι'):=Mem.bU (fun i hi=>hi) hext
 have hlive:∀i x,m.get i=some x→aV x=true→ι' i=ι i:=fun i x hx hl=>hext i (nR hx hl)
 refine⟨⟨h.ok,?_,?_,h.glim,h.limn,h.gle,h.base,h.ghas,fun i hi=>by rw [hext i (h.ghas i hi)];exact h.glob i hi,fun i x hx hl=>by rw [hlive i x hx hl];exact h.spot i x hx hl,h.JU fun k hk _=>hpush k hk⟩,hext,fun i hi=>hi,D5 _,rfl,fun _ _=>rfl,by rw [hw.heap];simp,fun b hb _=>hpush b hb,?_,hw.os,hw.out,hw.tape⟩
 ·intro i x hx
  by_cases hv:iV x=true
  ·cases x<;>first | trivial | cases hv
  ·rw [hext i ⟨x,hx,by simpa using hv⟩]
   exact (h.blk i x hx).mono (n:=m.nm ι) hext hnm fun hl=>hpush _ (dx (h.blk i x hx) hl)
 ·intro i x hi hx hl
  have ho:=h.own i x hi hx hl
  have hb:=dx (h.blk i x hx) hl
  refine⟨fun j y hj hy hly=>?_,fun c e fz hc=>?_⟩
  ·rw [hlive i x hx hl,hlive j y hy hly];exact ho.alone j y hj hy hly
  ·rw [hlive i x hx hl,hpush _ hb] at hc;exact ho.free c e fz hc
 ·rintro b ⟨i,x,hi,hx,hl,rfl⟩
  rw [hlive i x hx hl]
  exact .inl ⟨i,x,hi,hx,hl,rfl⟩
end
section
variable {P:Program}{G:Mem}{slots:List Nat}{nt:Nat}{cf:K8}{b:Nat}{ops:Array Oper}{ord:List Nat}{X:Nat→Nat×Inst}{S:Nat→DS}
def KF (ops:Array Oper)(ord:List Nat)(X:Nat→Nat×Inst)(p i:Nat):Opd→Prop
 | .loc k=>∃j,k<p∧ord[p-1-k]?=some j∧Dep ops i j
 | .slot j=>∀q,q<p→(X q).2.dst≠some j
 | .con _=>True
def Gs (ord:List Nat)(X:Nat→Nat×Inst):Nat→List Nat
 | 0=>[]
 | p+1=>if isE (X p).2 then (ord.getD p 0)::Gs ord X p else Gs ord X p
structure Fixed (P:Program)(slots:List Nat)(nt:Nat)(cf:K8)(b:Nat)(ops:Array Oper)(ord:List Nat)(X:Nat→Nat×Inst)(S:Nat→DS):Prop where
 nodup:ord.Nodup
 all:∀i,i<ops.size→i∈ord
 lt:∀i∈ord,i<ops.size
 inst:∀(p i:Nat),ord[p]?=some i→∃o,ops[i]?=some o∧(X p).2.op=vR P slots (gK ops ord p) o.op∧(X p).2.dst=Qc slots o.dst∧lM ops (gK ops ord p) o.guard (X p).2.guard
 step:∀p,p<ord.length→KA cf b (X p) (S p) (S (p+1))
 eff:∀(p i:Nat),ord[p]?=some i→isE (X p).2=true→∀(q j:Nat),q<p→ord[q]?=some j→Dep ops i j
 edges:∀(p i:Nat) (o:Oper),ord[p]?=some i→ops[i]?=some o→∀e∈o.after,Region.binds .any e=true→∃q:Nat,q<p∧ord[q]?=some e.on
 dsts:∀(i j:Nat) (oi oj:Oper) (t:Tmp),ops[i]?=some oi→ops[j]?=some oj→oi.dst=some t→oj.dst=some t→i=j
 looks:∀(i:Nat) (o:Oper) (t:Tmp),ops[i]?=some o→t∈vS ops o→∀(q:Nat) (oq:Oper),ops[q]?=some oq→q≠i→oq.dst=some t→Dep ops i q∨Dep ops q i
 opd:∀(p i:Nat),ord[p]?=some i→∀y∈Jv (X p).2.op,KF ops ord X p i y
 opdg:∀(p i:Nat) (y:Opd) (wt:Bool),ord[p]?=some i→(X p).2.guard=some (y,wt)→KF ops ord X p i y
 cnt:∀(p i:Nat) o,ord[p]?=some i→(X p).2.op=.r o→(X p).1=((Gs ord X p).takeWhile fun e=>!mOf (masks ops.toList) i e).length
 nal:∀(p q:Nat) o o',p<q→q<ord.length→(X p).2.op=.a o→(X q).2.op=.a o'→(X p).1<(X q).1
 din:∀(i:Nat) (o:Oper) (t:Tmp),ops[i]?=some o→o.dst=some t→t<nt
 gs0:(S 0).gs=[(S 0).m]
 ls0:(S 0).ls=[]
def Vof (S:Nat→DS)(p:Nat):j5:=(S (p+1)).ls.headD .undef
def kF (b:Nat)(X:Nat→Nat×Inst)(S:Nat→DS)(p:Nat):Option (Nat×Blk):=match (X p).2.op with
 | .a o=>match RJ (X p).2.guard (trL o) (S p).ls (S p).env (b+(X p).1) with
  | some (_,some blk)=>some (b+(X p).1,blk)
  | _=>none
 | _=>none
def gJ (b:Nat)(X:Nat→Nat×Inst)(S:Nat→DS)(q:Nat)(L:Nat→Bool):Nat→Mem
 | 0=>(S q).m
 | d+1=>if L (q+d) then (match kF b X S (q+d) with
    | some (i,blk)=>(gJ b X S q L d).set i blk
    | none=>gJ b X S q L d)
  else gJ b X S q L d
theorem Oc {x:Nat×Inst}{s s':DS}(h:KA cf b x s s'):∃v,s'.ls=v::s.ls∧s'.env=trD x.2.dst v s.env:=by
 rcases h with⟨v,h1,h2,_⟩ | ⟨v,h1,h2,_⟩<;>exact⟨v,h1,h2⟩
theorem Gt {x:Nat×Inst}{s s':DS}(h:KA cf b x s s'):s'.gs=if isE x.2=true then s'.m::s.gs else s.gs:=by
 rcases h with⟨v,h1,h2,h3⟩ | ⟨v,_,_,_,h4,_⟩
 ·cases hop:x.2.op with
  | p o=>rw [hop] at h3;simp [isE,hop,h3.2.2]
  | r o=>rw [hop] at h3;simp [isE,hop,h3.2.2.2]
  | a o=>rw [hop] at h3;obtain⟨_,_,_,_,_,_,h⟩:=h3;simp [isE,hop,h]
  | e o=>rw [hop] at h3;simp [isE,hop,h3.2.1]
 ·exact h4
theorem Fixed.ls (F:Fixed P slots nt cf b ops ord X S){p:Nat}(hp:p<ord.length):(S (p+1)).ls=Vof S p::(S p).ls∧(S (p+1)).env=trD (X p).2.dst (Vof S p) (S p).env:=by
 obtain⟨v,h1,h2⟩:=Oc (F.step p hp)
 have:Vof S p=v:=by simp [Vof,h1]
 rw [this];exact⟨h1,h2⟩
theorem Fixed.len (F:Fixed P slots nt cf b ops ord X S):∀p,p≤ord.length→(S p).ls.length=p∧∀k,k<p→(S p).ls[k]?=some (Vof S (p-1-k)):=by
 intro p
 induction p with
 | zero=>intro _;exact⟨by rw [F.ls0];rfl,fun k hk=>by omega⟩
 | succ p ih=>
  intro hp
  obtain⟨h1,h2⟩:=ih (by omega)
  obtain⟨h3,_⟩:=F.ls (p:=p) (by omega)
  rw [h3]
  refine⟨by simp [h1],fun k hk=>?_⟩
  cases k with
  | zero=>simp
  | succ k=>
   rw [awv,h2 k (by omega),show p+1-1-(k+1)=p-1-k from by omega]
theorem Fixed.gs (F:Fixed P slots nt cf b ops ord X S){q:Nat}(hq:q=0∨isE (X (q-1)).2=true):∀d,q+d≤ord.length→
  ∃r:Nat,(S (q+d)).gs[r]?=some (S q).m∧∀k:Nat,k<r→∃pos e,q≤pos∧pos<q+d∧ord[pos]?=some e∧isE (X pos).2=true∧(Gs ord X (q+d))[k]?=some e:=by
 intro d
 induction d with
 | zero=>
  intro hd
  refine⟨0,?_,fun k hk=>by omega⟩
  rcases hq with rfl | hq
  ·rw [awl,F.gs0];rfl
  ·cases q with
   | zero=>rw [awl,F.gs0];rfl
   | succ q=>
    have hs:=Gt (F.step q (by omega))
    simp only [axG] at hq
    rw [if_pos hq] at hs
    rw [awl,hs];rfl
 | succ d ih=>
  intro hd
  obtain⟨r,h1,h2⟩:=ih (by omega)
  have hs:=Gt (F.step (q+d) (by omega))
  have hpos:q+d<ord.length:=by omega
  have hget:ord[q+d]?=some (ord.getD (q+d) 0):=by
   rw [avF,U1 hpos];rfl
  cases he:isE (X (q+d)).2 with
  | true=>
   have hgs:(S (q+(d+1))).gs=(S (q+(d+1))).m::(S (q+d)).gs:=by
    rw [if_pos he] at hs;exact hs
   refine⟨r+1,by rw [hgs];simpa using h1,fun k hk=>?_⟩
   have heff:Gs ord X (q+(d+1))=ord.getD (q+d) 0::Gs ord X (q+d):=by
    show Gs ord X (q+d+1)=_
    simp [Gs,he]
   cases k with
   | zero=>exact⟨q+d,_,by omega,by omega,hget,he,by rw [heff];rfl⟩
   | succ k=>
    obtain⟨pos,e,g1,g2,g3,g4,g5⟩:=h2 k (by omega)
    exact⟨pos,e,g1,by omega,g3,g4,by rw [heff];simpa using g5⟩
  | false=>
   have hgs:(S (q+(d+1))).gs=(S (q+d)).gs:=by
    rw [if_neg (by rw [he];exact Bool.false_ne_true)] at hs;exact hs
   refine⟨r,by rw [hgs];exact h1,fun k hk=>?_⟩
   obtain⟨pos,e,g1,g2,g3,g4,g5⟩:=h2 k hk
   refine⟨pos,e,g1,by omega,g3,g4,?_⟩
   have:Gs ord X (q+(d+1))=Gs ord X (q+d):=by show Gs ord X (q+d+1)=_;simp [Gs,he]
   rw [this];exact g5
theorem ru {α:Type}(f:α→Bool):∀(l:List α) (r:Nat),(∀k,k<r→∃e,l[k]?=some e∧f e=true)→r≤(l.takeWhile f).length
 | _,0,_=>axp _
 | [],r+1,h=>by obtain⟨e,h1,_⟩:=h 0 (by omega);simp at h1
 | x::l,r+1,h=>by
  obtain⟨e,h1,h2⟩:=h 0 (by omega)
  simp at h1;subst h1
  rw [List.takeWhile_cons,if_pos h2]
  have:=ru f l r (fun k hk=>by obtain⟨e,h3,h4⟩:=h (k+1) (by omega);exact⟨e,by simpa using h3,h4⟩)
  simpa using this
theorem Fixed.made (F:Fixed P slots nt cf b ops ord X S){p:Nat}(hp:p<ord.length){i:Nat}{blk:Blk}(h:kF b X S p=some (i,blk)):
  i=b+(X p).1∧(∃o,(X p).2.op=.a o∧RJ (X p).2.guard (trL o) (S p).ls (S p).env (b+(X p).1)=some (Vof S p,some blk))∧(S (p+1)).m=(S p).m.set i blk∧(S p).m.get i=some .void∧∀g∈(S p).gs,g.get i=some .void:=by
 have hst:=F.step p hp
 unfold kF at h
 split at h
 ·rename_i o ho
  obtain⟨v,h1,h2,hs⟩:=hst.resolve_right fun ⟨_,_,_,_,_,hh⟩=>hh o ho
  have hv:Vof S p=v:=by simp [Vof,h1]
  rw [ho] at hs
  obtain⟨r,g1,g2,g3,g4,g5,g6⟩:=hs
  rw [g1] at h
  obtain⟨u,bl⟩:=r
  cases bl with
  | none=>cases h
  | some bl=>
   cases h
   exact⟨rfl,⟨o,ho,by rw [g1,hv,g2]⟩,g5,qd g3,uL g4⟩
 ·cases h
theorem Fixed.Iy (F:Fixed P slots nt cf b ops ord X S){p q:Nat}(hp:p<q)(hq:q<ord.length){i j:Nat}{x y:Blk}(h:kF b X S p=some (i,x))(h':kF b X S q=some (j,y)):i<j:=by
 obtain⟨h1,⟨o,h2,_⟩,_⟩:=F.made (by omega) h
 obtain⟨h3,⟨o',h4,_⟩,_⟩:=F.made hq h'
 have:=F.nal p q o o' hp hq h2 h4
 omega
theorem Fixed.quiet (F:Fixed P slots nt cf b ops ord X S){p:Nat}(hp:p<ord.length)(he:isE (X p).2=false):(S (p+1)).m=(match kF b X S p with | some (i,blk)=>(S p).m.set i blk | none=>(S p).m):=by
 cases hm:kF b X S p with
 | some y=>obtain⟨i,blk⟩:=y;exact (F.made hp hm).2.2.1
 | none=>
  rcases F.step p hp with⟨v,_,_,hs⟩ | ⟨_,_,_,hh,_,_⟩
  case inr=>exact hh
  cases hop:(X p).2.op with
  | p o=>rw [hop] at hs;exact hs.2.1
  | r o=>rw [hop] at hs;exact hs.2.2.1
  | e o=>simp [isE,hop] at he
  | a o=>
   rw [hop] at hs
   obtain⟨r,g1,_,_,_,g5,_⟩:=hs
   rw [g5]
   obtain⟨u,bl⟩:=r
   cases bl with
   | none=>rfl
   | some bl=>simp [kF,hop,g1] at hm
theorem T.sU {α:Type}:∀(t:T α) (i:Nat) {x:α},t.get i=some x→∀(v:α) (j:Nat),(t.put i v).get j=if j=i then some v else t.get j
 | .e,i,x,h,v,j=>by cases h
 | .nd l y r,i,x,h,v,j=>by
  have hl:=fun i x (h:l.get i=some x)=>T.sU l i h
  have hr:=fun i x (h:r.get i=some x)=>T.sU r i h
  cases i with
  | zero=>
   cases j with
   | zero=>rfl
   | succ j=>rw [if_neg (by omega)];rfl
  | succ i=>
   have hm:Nat.mod i 2=0∨Nat.mod i 2=1:=by have:Nat.mod i 2<2:=awr _ (by omega);omega
   have hmj:Nat.mod j.pred 2=0∨Nat.mod j.pred 2=1:=by have:Nat.mod j.pred 2<2:=awr _ (by omega);omega
   have hg:(T.nd l y r).get (i+1)=(Nat.rec (l.get (Nat.div i 2)) (fun _ _=>r.get (Nat.div i 2)) (Nat.mod i 2):Option α):=rfl
   have hp:(T.nd l y r).put (i+1) v=(Nat.rec (.nd (l.put (Nat.div i 2) v) y r) (fun _ _=>.nd l y (r.put (Nat.div i 2) v)) (Nat.mod i 2):T α):=rfl
   rw [hg] at h
   rw [hp]
   have hgj:∀(a b:T α) (k:Nat),(T.nd a y b).get (k+1)=(Nat.rec (a.get (Nat.div k 2)) (fun _ _=>b.get (Nat.div k 2)) (Nat.mod k 2):Option α):=fun _ _ _=>rfl
   rcases hm with hm | hm
   ·rw [hm] at h ⊢
    cases j with
    | zero=>rw [if_neg (by omega)];rfl
    | succ k=>
     show (T.nd (l.put (Nat.div i 2) v) y r).get (k+1)=_
     rw [hgj,hgj]
     rcases hmj with hk | hk<;>rw [show Nat.pred (k+1)=k from rfl] at hk<;>rw [hk]
     ·show (l.put (Nat.div i 2) v).get (Nat.div k 2)=if k+1=i+1 then some v else l.get (Nat.div k 2)
      rw [hl _ x h v]
      have e:Nat.div k 2=Nat.div i 2↔k+1=i+1:=by
       have h1:Nat.mod k 2=k%2:=rfl
       have h2:Nat.mod i 2=i%2:=rfl
       have h3:Nat.div k 2=k / 2:=rfl
       have h4:Nat.div i 2=i / 2:=rfl
       omega
      by_cases hh:k+1=i+1
      ·rw [if_pos hh,if_pos (e.2 hh)]
      ·rw [if_neg hh,if_neg fun q=>hh (e.1 q)]
     ·show r.get (Nat.div k 2)=if k+1=i+1 then some v else r.get (Nat.div k 2)
      rw [if_neg]
      intro hh
      have h1:Nat.mod k 2=k%2:=rfl
      have h2:Nat.mod i 2=i%2:=rfl
      omega
   ·rw [hm] at h ⊢
    cases j with
    | zero=>rw [if_neg (by omega)];rfl
    | succ k=>
     show (T.nd l y (r.put (Nat.div i 2) v)).get (k+1)=_
     rw [hgj,hgj]
     rcases hmj with hk | hk<;>rw [show Nat.pred (k+1)=k from rfl] at hk<;>rw [hk]
     ·show l.get (Nat.div k 2)=if k+1=i+1 then some v else l.get (Nat.div k 2)
      rw [if_neg]
      intro hh
      have h1:Nat.mod k 2=k%2:=rfl
      have h2:Nat.mod i 2=i%2:=rfl
      omega
     ·show (r.put (Nat.div i 2) v).get (Nat.div k 2)=if k+1=i+1 then some v else r.get (Nat.div k 2)
      rw [hr _ x h v]
      have e:Nat.div k 2=Nat.div i 2↔k+1=i+1:=by
       have h1:Nat.mod k 2=k%2:=rfl
       have h2:Nat.mod i 2=i%2:=rfl
       have h3:Nat.div k 2=k / 2:=rfl
       have h4:Nat.div i 2=i / 2:=rfl
       omega
      by_cases hh:k+1=i+1
      ·rw [if_pos hh,if_pos (e.2 hh)]
      ·rw [if_neg hh,if_neg fun q=>hh (e.1 q)]
theorem Mem.Iz {m:Mem}{i:Nat}{x:Blk}(h:m.get i=some x)(y:Blk)(j:Nat):(m.set i y).get j=if j=i then some y else m.get j:=T.sU m.t i h y j
theorem Gu (X:Nat→Nat×Inst):∀p,∃q,q≤p∧(q=0∨isE (X (q-1)).2=true)∧∀j,q≤j→j<p→isE (X j).2=false
 | 0=>⟨0,D5 _,.inl rfl,fun j _ h=>by omega⟩
 | p+1=>by
  cases hE:isE (X p).2 with
  | true=>exact⟨p+1,D5 _,.inr hE,fun j h1 h2=>by omega⟩
  | false=>
   obtain⟨q,h1,h2,h3⟩:=Gu X p
   refine⟨q,by omega,h2,fun j g1 g2=>?_⟩
   by_cases hj:j=p
   ·rw [hj];exact hE
   ·exact h3 j g1 (by omega)
theorem Fixed.since (F:Fixed P slots nt cf b ops ord X S){q:Nat}{i:Nat}{y:Blk}:∀d,q+d≤ord.length→(∀j,q≤j→j<q+d→isE (X j).2=false)→(S (q+d)).m.get i=some y→(S q).m.get i=some y∨∃p,q≤p∧p<q+d∧kF b X S p=some (i,y):=by
 intro d
 induction d with
 | zero=>intro _ _ h;exact .inl h
 | succ d ih=>
  intro hd hE h
  have hq:=F.quiet (p:=q+d) (by omega) (hE _ (by omega) (by omega))
  rw [show q+(d+1)=q+d+1 from rfl,hq] at h
  cases hm:kF b X S (q+d) with
  | none=>
   rw [hm] at h
   rcases ih (by omega) (fun j h1 h2=>hE j h1 (by omega)) h with h | ⟨p,h1,h2,h3⟩
   ·exact .inl h
   ·exact .inr ⟨p,h1,by omega,h3⟩
  | some z=>
   obtain⟨k,blk⟩:=z
   rw [hm] at h
   have hv:=(F.made (p:=q+d) (by omega) hm).2.2.2.1
   have h:((S (q+d)).m.set k blk).get i=some y:=h
   rw [Mem.Iz hv] at h
   by_cases hk:i=k
   ·subst hk
    rw [if_pos rfl] at h
    cases h
    exact .inr ⟨q+d,by omega,by omega,hm⟩
   ·rw [if_neg hk] at h
    rcases ih (by omega) (fun j h1 h2=>hE j h1 (by omega)) h with h | ⟨p,h1,h2,h3⟩
    ·exact .inl h
    ·exact .inr ⟨p,h1,by omega,h3⟩
end
section
variable {P:Program}{G:Mem}{slots:List Nat}{nt:Nat}{cf:K8}{b:Nat}{ops:Array Oper}{ord:List Nat}{X:Nat→Nat×Inst}{S:Nat→DS}
structure Od (b:Nat)(ord:List Nat)(X:Nat→Nat×Inst)(S:Nat→DS)(q:Nat)(L:Nat→Bool)(d:Nat):Prop where
 ok:T.Ok (gJ b X S q L d).t (gJ b X S q L d).next
 next:(gJ b X S q L d).next=(S q).m.next
 lim:(gJ b X S q L d).lim=(S q).m.lim
 later:∀p i blk,q+d≤p→p<ord.length→kF b X S p=some (i,blk)→(gJ b X S q L d).get i=some .void
 from_:∀j y,(gJ b X S q L d).get j=some y→(S q).m.get j=some y∨∃d',d'<d∧L (q+d')=true∧kF b X S (q+d')=some (j,y)
 laid:∀d' i blk,d'<d→L (q+d')=true→kF b X S (q+d')=some (i,blk)→(gJ b X S q L d).get i=some blk
 sub:(S q).m.sub (gJ b X S q L d)
theorem Fixed.AY (F:Fixed P slots nt cf b ops ord X S){q p:Nat}(hq:q=0∨isE (X (q-1)).2=true)(hqp:q≤p)(hp:p<ord.length){i:Nat}{blk:Blk}(h:kF b X S p=some (i,blk)):(S q).m.get i=some .void:=by
 obtain⟨r,h1,_⟩:=F.gs hq (p-q) (by omega)
 rw [show q+(p-q)=p from by omega] at h1
 exact (F.made hp h).2.2.2.2 _ (avG h1)
theorem Fixed.lay (F:Fixed P slots nt cf b ops ord X S){q:Nat}(hq:q=0∨isE (X (q-1)).2=true)(hok:T.Ok (S q).m.t (S q).m.next)(L:Nat→Bool):∀d,q+d≤ord.length→Od b ord X S q L d:=by
 intro d
 induction d with
 | zero=>
  intro _
  exact⟨hok,rfl,rfl,fun p i blk h1 h2 h3=>F.AY hq (by omega) h2 h3,fun j y h=>.inl h,fun d' i blk h=>by omega,fun i y h _=>h⟩
 | succ d ih=>
  intro hd
  have H:=ih (by omega)
  cases hL:L (q+d) with
  | false=>
   have e:gJ b X S q L (d+1)=gJ b X S q L d:=by simp [gJ,hL]
   refine⟨by rw [e];exact H.ok,by rw [e];exact H.next,by rw [e];exact H.lim,fun p i blk h1 h2 h3=>by rw [e];exact H.later p i blk (by omega) h2 h3,fun j y h=>?_,fun d' i blk h1 h2 h3=>?_,by rw [e];exact H.sub⟩
   ·rw [e] at h
    rcases H.from_ j y h with h | ⟨d',h1,h2⟩
    ·exact .inl h
    ·exact .inr ⟨d',by omega,h2⟩
   ·by_cases hd':d'=d
    ·subst hd';rw [hL] at h2;cases h2
    ·rw [e];exact H.laid d' i blk (by omega) h2 h3
  | true=>
   cases hm:kF b X S (q+d) with
   | none=>
    have e:gJ b X S q L (d+1)=gJ b X S q L d:=by simp [gJ,hL,hm]
    refine⟨by rw [e];exact H.ok,by rw [e];exact H.next,by rw [e];exact H.lim,fun p i blk h1 h2 h3=>by rw [e];exact H.later p i blk (by omega) h2 h3,fun j y h=>?_,fun d' i blk h1 h2 h3=>?_,by rw [e];exact H.sub⟩
    ·rw [e] at h
     rcases H.from_ j y h with h | ⟨d',h1,h2⟩
     ·exact .inl h
     ·exact .inr ⟨d',by omega,h2⟩
    ·by_cases hd':d'=d
     ·subst hd';rw [hm] at h3;cases h3
     ·rw [e];exact H.laid d' i blk (by omega) h2 h3
   | some y=>
    obtain⟨i0,blk0⟩:=y
    have e:gJ b X S q L (d+1)=(gJ b X S q L d).set i0 blk0:=by simp [gJ,hL,hm]
    have hv:=H.later (q+d) i0 blk0 (D5 _) (by omega) hm
    have hlt:=Mem.M8 H.ok hv
    have hget:=Mem.ay H.ok hlt blk0
    refine⟨by rw [e];exact H.ok.put i0 blk0 hlt,by rw [e];exact H.next,by rw [e];exact H.lim,fun p i blk h1 h2 h3=>?_,fun j y h=>?_,fun d' i blk h1 h2 h3=>?_,fun i y h hy=>?_⟩
    ·have hne:=F.Iy (p:=q+d) (q:=p) (by omega) h2 hm h3
     rw [e,hget,if_neg (by omega)];exact H.later p i blk (by omega) h2 h3
    ·rw [e,hget] at h
     split at h
     ·rename_i he
      cases h
      exact .inr ⟨d,by omega,hL,by rw [he];exact hm⟩
     ·rcases H.from_ j y h with h | ⟨d',h1,h2⟩
      ·exact .inl h
      ·exact .inr ⟨d',by omega,h2⟩
    ·by_cases hd':d'=d
     ·subst hd';rw [hm] at h3;cases h3;rw [e,hget,if_pos rfl]
     ·have hne:=F.Iy (p:=q+d') (q:=q+d) (by omega) (by omega) h3 hm
      rw [e,hget,if_neg (by omega)];exact H.laid d' i blk (by omega) h2 h3
    ·have:=H.sub i y h hy
     rw [e,hget,if_neg (fun he=>by rw [he,hv] at this;cases this;cases hy)];exact this
theorem Fixed.wM (F:Fixed P slots nt cf b ops ord X S){q:Nat}(hq:q=0∨isE (X (q-1)).2=true)(hok:T.Ok (S q).m.t (S q).m.next){L L':Nat→Bool}{d d':Nat}(hd:d≤d')(hd':q+d'≤ord.length)
  (hL:∀k,k<d→L (q+k)=true→L' (q+k)=true) {j:Nat} (h:(gJ b X S q L d).has j):(gJ b X S q L' d').has j:=by
 obtain⟨y,h1,h2⟩:=h
 have H:=F.lay hq hok L d (by omega)
 have H':=F.lay hq hok L' d' hd'
 rcases H.from_ j y h1 with h | ⟨k,h3,h4,h5⟩
 ·exact⟨y,H'.sub j y h h2,h2⟩
 ·exact⟨y,H'.laid k j y (by omega) (hL k h3 h4) h5,h2⟩
theorem Fixed.lay_all (F:Fixed P slots nt cf b ops ord X S){q:Nat}{L:Nat→Bool}:∀d,q+d≤ord.length→(∀k,k<d→L (q+k)=true∧isE (X (q+k)).2=false)→gJ b X S q L d=(S (q+d)).m:=by
 intro d
 induction d with
 | zero=>intro _ _;rfl
 | succ d ih=>
  intro hd h
  obtain⟨h1,h2⟩:=h d (by omega)
  have e:=ih (by omega) fun k hk=>h k (by omega)
  have hq:=F.quiet (p:=q+d) (by omega) h2
  show (if L (q+d) then _ else _)=_
  rw [h1,if_pos rfl,show q+(d+1)=q+d+1 from rfl,hq]
  cases kF b X S (q+d) with
  | none=>exact e
  | some y=>obtain⟨i,blk⟩:=y;simp only [];rw [e]
def Lp (ord:List Nat)(listed:Array Bool)(p:Nat):Bool:=match ord[p]? with
 | some i=>listed.getD i false
 | none=>false
structure rZ (P:Program)(G:Mem)(b:Nat)(ops:Array Oper)(ord:List Nat)(X:Nat→Nat×Inst)(S:Nat→DS)(ι0:Inj)(m0:Mem)(w0:World)(a0:Act)(listed:Array Bool)(a:Act)(w:World)(ι:Inj)(q:Nat):Prop where
 hq:q≤ord.length
 head:q=0∨isE (X (q-1)).2=true
 low:∀p,p<q→Lp ord listed p=true
 high:∀p,q≤p→isE (X p).2=true→Lp ord listed p=false
 base:Step P G ι0 m0 w0 ι (S q).m w
 ext:∀d i blk,Lp ord listed (q+d)=true→kF b X S (q+d)=some (i,blk)→fT P ι ((gJ b X S q (Lp ord listed) (d+1)).nm ι) w.heap (ι i) blk∧iV blk=false∧
  (aV blk=true→(w0.heap.size≤(ι i).b∧(ι i).spot=none)∧(∀j y,(S q).m.get j=some y→aV y=true→(ι j).b≠(ι i).b)∧∀c e fz,w.heap[(ι i).b]?=some (.cells c e fz)→∀k,k<c.size→¬ (fz.1≤k∧k<fz.2))
 ext2:∀d d' i i' blk blk',d≠d'→Lp ord listed (q+d)=true→Lp ord listed (q+d')=true→kF b X S (q+d)=some (i,blk)→kF b X S (q+d')=some (i',blk')→aV blk=true→aV blk'=true→(ι i').b≠(ι i).b
 vals:∀d,Lp ord listed (q+d)=true→(Vof S (q+d)).lt ((gJ b X S q (Lp ord listed) (d+1)).nm ι)
 valsl:∀p,p<q→(Vof S p).lt ((S q).m.nm ι)
 tw:∀p i o t,ord[p]?=some i→listed.getD i false=true→ops[i]?=some o→o.dst=some t→a.tmps.getD t undef=H6 ι (Vof S p)
 tn:∀t,(∀i o,listed.getD i false=true→ops[i]?=some o→o.dst≠some t)→a.tmps.getD t undef=a0.tmps.getD t undef
 sz:a.tmps.size=a0.tmps.size
 defs:a.defers=a0.defers
 closed:EZ ops listed
 len:listed.size=ops.size
variable {ι0 ι:Inj}{m0:Mem}{w0 w:World}{a0 a:Act}{listed:Array Bool}{q:Nat}
theorem rZ.lay (F:Fixed P slots nt cf b ops ord X S)(hb:m0.lim≤b)(D:rZ P G b ops ord X S ι0 m0 w0 a0 listed a w ι q):∀d,q+d≤ord.length→Step P G ι0 m0 w0 ι (gJ b X S q (Lp ord listed) d) w:=by
 intro d
 induction d with
 | zero=>intro _;exact D.base
 | succ d ih=>
  intro hd
  have H:=ih (by omega)
  have LF:=F.lay D.head D.base.rm.ok (Lp ord listed) d (by omega)
  cases hL:Lp ord listed (q+d) with
  | false=>
   have e:gJ b X S q (Lp ord listed) (d+1)=gJ b X S q (Lp ord listed) d:=by simp [gJ,hL]
   rw [e];exact H
  | true=>
   cases hm:kF b X S (q+d) with
   | none=>
    have e:gJ b X S q (Lp ord listed) (d+1)=gJ b X S q (Lp ord listed) d:=by simp [gJ,hL,hm]
    rw [e];exact H
   | some y=>
    obtain⟨i,blk⟩:=y
    have e:gJ b X S q (Lp ord listed) (d+1)=(gJ b X S q (Lp ord listed) d).set i blk:=by simp [gJ,hL,hm]
    obtain⟨g1,g2,g3⟩:=D.ext d i blk hL hm
    rw [e] at g1 ⊢
    have hi:=(F.made (p:=q+d) (by omega) hm).1
    refine H.add (LF.later (q+d) i blk (D5 _) (by omega) hm) (by rw [LF.lim,D.base.lim];omega) ⟨g1,g2,fun hl j y hj hy hly=>?_,fun hl=>(g3 hl).2.2,fun hl=>(g3 hl).1.2⟩ fun hl=>(g3 hl).1.1
    rcases LF.from_ j y hy with hy | ⟨d',h1,h2,h3⟩
    ·exact (g3 hl).2.1 j y hy hly
    ·exact D.ext2 d d' i j blk y (by omega) hL h2 hm h3 hl hly
def vm (ord:List Nat)(S:Nat→DS)(listed:Array Bool)(p:Nat):j5:=if Lp ord listed p then Vof S p else .undef
def lsM (ord:List Nat)(S:Nat→DS)(listed:Array Bool):Nat→List j5
 | 0=>[]
 | p+1=>vm ord S listed p::lsM ord S listed p
def Gv (ord:List Nat)(X:Nat→Nat×Inst)(S:Nat→DS)(listed:Array Bool):Nat→T j5
 | 0=>(S 0).env
 | p+1=>trD (X p).2.dst (vm ord S listed p) (Gv ord X S listed p)
def tmM (ops:Array Oper)(ord:List Nat)(S:Nat→DS)(listed:Array Bool)(ι:Inj)(a0:Act):Nat→Array Value
 | 0=>a0.tmps
 | p+1=>match (ord[p]?).bind fun i=>(ops[i]?).bind (·.dst) with
  | some t=>(tmM ops ord S listed ι a0 p).setIfInBounds t (H6 ι (vm ord S listed p))
  | none=>tmM ops ord S listed ι a0 p
theorem lT:∀p,(tmM ops ord S listed ι a0 p).size=a0.tmps.size
 | 0=>rfl
 | p+1=>by
  simp only [tmM]
  split
  ·simp [lT p]
  ·exact lT p
theorem Fe (ops:Array Oper)(ord:List Nat)(p:Nat)(hp:p<ord.length):gK ops ord (p+1)=((ord[p]?).bind fun i=>(ops[i]?).bind (·.dst))::gK ops ord p:=by
 unfold gK
 rw [awd hp,awN,List.reverse_append,U1 hp]
 rfl
theorem rZ.st (F:Fixed P slots nt cf b ops ord X S)(hb:m0.lim≤b)(D:rZ P G b ops ord X S ι0 m0 w0 a0 listed a w ι q)(hen:bM ι0 (m0.nm ι0) slots (S 0).env a0.tmps)(hnt:nt≤a0.tmps.size)(d:Nat)(hd:q+d≤ord.length):
  ∀p,p≤q+d→St P ι ((gJ b X S q (Lp ord listed) d).nm ι) slots (gK ops ord p) (lsM ord S listed p) (Gv ord X S listed p) (tmM ops ord S listed ι a0 p):=by
 have H:=D.lay F hb d hd
 intro p
 induction p with
 | zero=>
  intro _
  refine⟨fun t k hk=>by simp [gK,jr] at hk,H.env hen,H.rm.glob,H.rm.ghas⟩
 | succ p ih=>
  intro hp
  have s:=ih (by omega)
  have hpl:p<ord.length:=by omega
  obtain⟨i,hi⟩:∃i,ord[p]?=some i:=⟨ord[p],U1 hpl⟩
  obtain⟨o,ho,_,hdst,_⟩:=F.inst p i hi
  have hv:(vm ord S listed p).lt ((gJ b X S q (Lp ord listed) d).nm ι):=by
   unfold vm
   split
   ·rename_i hL
    by_cases hpq:p<q
    ·exact j5.Z8 (Mem.bU (fun j ⟨y,h1,h2⟩=>⟨y,(F.lay D.head D.base.rm.ok _ d hd).sub j y h1 h2,h2⟩) fun _ _=>rfl) _ (D.valsl p hpq)
    ·have:=D.vals (p-q) (by rw [show q+(p-q)=p from by omega];exact hL)
     rw [show q+(p-q)=p from by omega] at this
     exact j5.Z8 (Mem.bU (fun j hj=>F.wM D.head D.base.rm.ok (by omega) hd (fun _ _ h=>h) hj) fun _ _=>rfl) _ this
   ·trivial
  have hdone:gK ops ord (p+1)=o.dst::gK ops ord p:=by rw [Fe ops ord p hpl,hi];simp [ho]
  have:=s.put o.dst (fun t ht=>by rw [lT];exact avu (F.din i o t ho ht) hnt) hv
  rw [hdone]
  show St P ι _ slots _ (vm ord S listed p::lsM ord S listed p) (trD (X p).2.dst (vm ord S listed p) (Gv ord X S listed p)) (tmM ops ord S listed ι a0 (p+1))
  rw [hdst]
  have e:tmM ops ord S listed ι a0 (p+1)=(match o.dst with | some t=>(tmM ops ord S listed ι a0 p).setIfInBounds t (H6 ι (vm ord S listed p)) | none=>tmM ops ord S listed ι a0 p):=by
   simp only [tmM,hi,avK,ho]
  rw [e];exact this
theorem KG (S:Nat→DS):∀(p k:Nat),k<p→(lsM ord S listed p)[k]?=some (vm ord S listed (p-1-k))
 | 0,k,h=>by omega
 | p+1,0,_=>by simp [lsM]
 | p+1,k+1,h=>by rw [lsM,awv,KG S p k (by omega),show p+1-1-(k+1)=p-1-k from by omega]
theorem Oe (F:Fixed P slots nt cf b ops ord X S){j:Nat}:∀p,p≤ord.length→(∀r,r<p→(X r).2.dst≠some j)→∀ls ls':List j5,trO (.slot j) ls (Gv ord X S listed p)=trO (.slot j) ls' (S p).env:=by
 intro p
 induction p with
 | zero=>intro _ _ ls ls';rfl
 | succ p ih=>
  intro hp h ls ls'
  obtain⟨_,h2⟩:=F.ls (p:=p) (by omega)
  rw [h2]
  show trO (.slot j) ls (trD (X p).2.dst (vm ord S listed p) (Gv ord X S listed p))=_
  rw [AR (h p (by omega)) _ ls ls,AR (h p (by omega)) _ ls' ls']
  exact ih (by omega) (fun r hr=>h r (by omega)) ls ls'
theorem rZ.opd (F:Fixed P slots nt cf b ops ord X S)(D:rZ P G b ops ord X S ι0 m0 w0 a0 listed a w ι q){p i:Nat}(hp:p<ord.length)(hdep:∀j,Dep ops i j→listed.getD j false=true){y:Opd}(h:KF ops ord X p i y):
  Sm id (S p).ls (S p).env (lsM ord S listed p) (Gv ord X S listed p) y:=by
 show trO y (lsM ord S listed p) (Gv ord X S listed p)=trO y (S p).ls (S p).env
 cases y with
 | loc k=>
  obtain⟨j,h1,h2,h3⟩:=h
  rw [Et,Et,KG S p k h1,(F.len p (by omega)).2 k h1]
  have:Lp ord listed (p-1-k)=true:=by simp only [Lp,h2];exact hdep j h3
  simp [vm,this]
 | slot j=>exact Oe F p (by omega) h _ _
 | con c=>rfl
theorem rz {t:Nat}:∀p,(∀r i o,r<p→ord[r]?=some i→ops[i]?=some o→o.dst≠some t)→(tmM ops ord S listed ι a0 p).getD t undef=a0.tmps.getD t undef:=by
 intro p
 induction p with
 | zero=>intro _;rfl
 | succ p ih=>
  intro h
  have:=ih fun r i o hr=>h r i o (by omega)
  simp only [tmM]
  split
  ·rename_i t' ht
   obtain⟨i,hi,ht⟩:=awW.1 ht
   obtain⟨o,ho,ht⟩:=awW.1 ht
   have hne:t'≠t:=fun e=>h p i o (by omega) hi ho (by rw [ht,e])
   rw [avE,avH hne,← avE];exact this
  ·exact this
theorem AZ (F:Fixed P slots nt cf b ops ord X S)(hnt:nt≤a0.tmps.size){t r i:Nat}{o:Oper}(hr:ord[r]?=some i)(ho:ops[i]?=some o)(ht:o.dst=some t):∀p,r<p→(tmM ops ord S listed ι a0 p).getD t undef=H6 ι (vm ord S listed r):=by
 intro p
 induction p with
 | zero=>intro h;omega
 | succ p ih=>
  intro h
  simp only [tmM]
  by_cases hrp:r=p
  ·subst hrp
   simp only [hr,avK,ho,ht]
   rw [aG _ _ _ _ (by rw [lT];exact avu (F.din i o t ho ht) hnt),if_pos rfl]
  ·have:=ih (by omega)
   split
   ·rename_i t' ht'
    obtain⟨i',hi',ht'⟩:=awW.1 ht'
    obtain⟨o',ho',ht'⟩:=awW.1 ht'
    have hne:t'≠t:=fun e=>by
     subst e
     have:=F.dsts i i' o o' t' ho ho' ht ht'
     subst this
     exact hrp ((aww (S9.1 hr).1 F.nodup).1 (hr.trans hi'.symm))
    rw [avE,avH hne,← avE];exact this
   ·exact this
theorem rZ.looks (F:Fixed P slots nt cf b ops ord X S)(hnt:nt≤a0.tmps.size)(D:rZ P G b ops ord X S ι0 m0 w0 a0 listed a w ι q){p i:Nat}{o:Oper}(hp:ord[p]?=some i)(ho:ops[i]?=some o)(hun:listed.getD i false=false)
  (hdep:∀j,Dep ops i j→listed.getD j false=true) {t:Nat} (ht:t∈vS ops o):a.tmps.getD t undef=(tmM ops ord S listed ι a0 p).getD t undef:=by
 by_cases hw:∃j oj,ops[j]?=some oj∧oj.dst=some t∧j≠i
 ·obtain⟨j,oj,hj,hjt,hji⟩:=hw
  obtain⟨r,hr⟩:=avU (F.all j (avx.1 hj).1)
  have hpl:=(S9.1 hp).1
  rcases F.looks i o t ho ht j oj hj hji hjt with h | h
  ·have hL:=hdep j h
   have hrp:r<p:=by
    rcases axm r p with h1 | h1 | h1
    ·exact h1
    ·subst h1;rw [hp] at hr;exact absurd (avA hr).symm hji
    ·exact absurd (dep_before F h hp hr) (by omega)
   rw [D.tw r j oj t hr hL hj hjt,AZ F hnt hr hj hjt p hrp]
   simp [vm,Lp,hr,hL]
  ·have hrp:p<r:=dep_before F h hr hp
   have hnl:listed.getD j false=false:=by
    cases hl:listed.getD j false with
    | false=>rfl
    | true=>
     have:=h.listed D.closed (D.closed j · hl)
     rw [hun] at this;cases this
   rw [D.tn t ?_,rz p ?_]
   ·intro r' i' o' hr' hi' ho' e
    have:=F.dsts j i' oj o' t hj ho' hjt e
    subst this
    have:r'=r:=(aww (S9.1 hi').1 F.nodup).1 (hi'.trans hr.symm)
    omega
   ·intro i' o' hl' ho' e
    have:=F.dsts j i' oj o' t hj ho' hjt e
    subst this
    rw [hnl] at hl';cases hl'
 ·have hno:∀j oj,ops[j]?=some oj→oj.dst=some t→j=i:=fun j oj hj hjt=>Classical.byContradiction fun hne=>hw ⟨j,oj,hj,hjt,hne⟩
  rw [D.tn t ?_,rz p ?_]
  ·intro r' i' o' hr' hi' ho' e
   have:=hno i' o' ho' e
   subst this
   have:r'=p:=(aww (S9.1 hi').1 F.nodup).1 (hi'.trans hp.symm)
   omega
  ·intro i' o' hl' ho' e
   have:=hno i' o' ho' e
   subst this
   rw [hun] at hl';cases hl'
where
 dep_before {P:Program} {slots:List Nat} {nt:Nat} {cf:K8} {b:Nat} {ops:Array Oper} {ord:List Nat} {X:Nat→Nat×Inst} {S:Nat→DS} (F:Fixed P slots nt cf b ops ord X S) {i j:Nat} (h:Dep ops i j):∀{p r:Nat},ord[p]?=some i→ord[r]?=some j→r<p:=by
  induction h with
  | @edge i o e ho he hb=>
   intro p r hp hr
   obtain⟨q,h1,h2⟩:=F.edges p i o hp ho e he hb
   have:q=r:=(aww (S9.1 h2).1 F.nodup).1 (h2.trans hr.symm)
   omega
  | @more i o e j ho he hb _ ih=>
   intro p r hp hr
   obtain⟨q,h1,h2⟩:=F.edges p i o hp ho e he hb
   have:=ih h2 hr
   omega
end
section
variable {P:Program}{G:Mem}{slots:List Nat}{nt:Nat}{cf:K8}{b:Nat}{ops:Array Oper}{ord:List Nat}{X:Nat→Nat×Inst}{S:Nat→DS}
variable {ι0 ι:Inj}{m0:Mem}{w0 w:World}{a0 a:Act}{listed:Array Bool}{q:Nat}
theorem Step.rename {m:Mem}{ι1 ι2:Inj}(hst:Step P G ι0 m0 w0 ι1 m w)(hext:∀i,m.has i→ι2 i=ι1 i):Step P G ι0 m0 w0 ι2 m w:=by
 have h:=hst.rm
 have hnm:(m.nm ι1).le (m.nm ι2):=Mem.bU (fun i hi=>hi) hext
 have hlive:∀i x,m.get i=some x→aV x=true→ι2 i=ι1 i:=fun i x hx hl=>hext i (nR hx hl)
 refine⟨⟨h.ok,?_,?_,h.glim,h.limn,h.gle,h.base,h.ghas,fun i hi=>by rw [hext i (h.ghas i hi)];exact h.glob i hi,fun i x hx hl=>by rw [hlive i x hx hl];exact h.spot i x hx hl,h.gsz⟩,fun i hi=>(hext i (hst.has i hi)).trans (hst.ext i hi),hst.has,hst.next,hst.lim,hst.old,hst.size,hst.frame,?_,hst.os,hst.out,hst.tape⟩
 ·intro i x hx
  by_cases hv:iV x=true
  ·cases x<;>first | trivial | cases hv
  ·rw [hext i ⟨x,hx,by simpa using hv⟩]
   exact (h.blk i x hx).mono (n:=m.nm ι1) hext hnm fun _=>rfl
 ·intro i x hi hx hl
  have ho:=h.own i x hi hx hl
  refine⟨fun j y hj hy hly=>?_,fun c e fz hc=>?_⟩
  ·rw [hlive i x hx hl,hlive j y hy hly];exact ho.alone j y hj hy hly
  ·rw [hlive i x hx hl] at hc;exact ho.free c e fz hc
 ·rintro b ⟨i,x,hi,hx,hl,rfl⟩
  rw [hlive i x hx hl]
  exact hst.own _ ⟨i,x,hi,hx,hl,rfl⟩
theorem Ba {p:Nat}(h:Lp ord listed p=true):p<ord.length:=by
 unfold Lp at h
 split at h
 ·rename_i i hi;exact (S9.1 hi).1
 ·cases h
theorem nH {p i:Nat}(hp:ord[p]?=some i):Lp ord listed p=listed.getD i false:=by simp [Lp,hp]
theorem iY (A:Array Bool)(i j:Nat)(hi:i<A.size):(A.setIfInBounds i true).getD j false=if j=i then true else A.getD j false:=by
 rw [avE,avE]
 by_cases h:i=j
 ·subst h;rw [if_pos rfl,avI hi];rfl
 ·rw [if_neg (fun e=>h e.symm),avH h]
theorem KH (hnd:ord.Nodup){p i:Nat}(hp:ord[p]?=some i)(hi:i<listed.size)(r:Nat):Lp ord (listed.setIfInBounds i true) r=if r=p then true else Lp ord listed r:=by
 by_cases hr:r=p
 ·subst hr;rw [nH hp,iY _ _ _ hi,if_pos rfl,if_pos rfl]
 ·rw [if_neg hr]
  unfold Lp
  cases hj:ord[r]? with
  | none=>rfl
  | some j=>
   show (listed.setIfInBounds i true).getD j false=_
   rw [iY _ _ _ hi,if_neg]
   intro e;subst e
   exact hr ((aww (S9.1 hj).1 hnd).1 (hj.trans hp.symm))
theorem rZ.Zl (F:Fixed P slots nt cf b ops ord X S)(hnt:nt≤a0.tmps.size)(D:rZ P G b ops ord X S ι0 m0 w0 a0 listed a w ι q){p i:Nat}{o:Oper}(hp:ord[p]?=some i)(ho:ops[i]?=some o){ι':Inj}
  (hc:∀r,Lp ord listed r=true→H6 ι' (Vof S r)=H6 ι (Vof S r)):
  (∀r j o' t,ord[r]?=some j→(listed.setIfInBounds i true).getD j false=true→ops[j]?=some o'→o'.dst=some t→(a.put o.dst (H6 ι' (Vof S p))).tmps.getD t undef=H6 ι' (Vof S r))∧
  (∀t,(∀j o',(listed.setIfInBounds i true).getD j false=true→ops[j]?=some o'→o'.dst≠some t)→(a.put o.dst (H6 ι' (Vof S p))).tmps.getD t undef=a0.tmps.getD t undef)∧
  (a.put o.dst (H6 ι' (Vof S p))).tmps.size=a0.tmps.size∧(a.put o.dst (H6 ι' (Vof S p))).defers=a0.defers:=by
 have hi:i<listed.size:=by rw [D.len];exact (avx.1 ho).1
 refine⟨fun r j o' t hr hl hj ht=>?_,fun t h=>?_,by rw [fF];exact D.sz,by rw [(lK a o.dst _).2];exact D.defs⟩
 ·rw [(lK a o.dst _).1]
  rw [iY _ _ _ hi] at hl
  by_cases hji:j=i
  ·subst hji
   rw [ho] at hj;cases hj
   have:r=p:=(aww (S9.1 hr).1 F.nodup).1 (hr.trans hp.symm)
   subst this
   rw [ht]
   show (a.tmps.setIfInBounds t _).getD t undef=_
   rw [aG _ _ _ _ (by rw [D.sz];exact avu (F.din _ o t ho ht) hnt),if_pos rfl]
  ·rw [if_neg hji] at hl
   have h1:=D.tw r j o' t hr hl hj ht
   rw [hc r (by rw [nH hr];exact hl),← h1]
   cases hd:o.dst with
   | none=>rfl
   | some t'=>
    have hne:t'≠t:=fun e=>hji (F.dsts j i o' o t hj ho ht (by rw [hd,e]))
    show (a.tmps.setIfInBounds t' _).getD t undef=_
    rw [avE,avH hne,← avE]
 ·rw [(lK a o.dst _).1]
  have hnot:=h i o (by rw [iY _ _ _ hi,if_pos rfl]) ho
  have h1:=D.tn t fun j o' hl hj=>h j o' (by rw [iY _ _ _ hi];split<;>simp_all) hj
  rw [← h1]
  cases hd:o.dst with
  | none=>rfl
  | some t'=>
   have hne:t'≠t:=fun e=>hnot (by rw [hd,e])
   show (a.tmps.setIfInBounds t' _).getD t undef=_
   rw [avE,avH hne,← avE]
theorem rZ.closed' (D:rZ P G b ops ord X S ι0 m0 w0 a0 listed a w ι q){i:Nat}{o:Oper}(ho:ops[i]?=some o)(hr:∀e∈o.after,Region.binds .any e=true→listed.getD e.on false=true):
  EZ ops (listed.setIfInBounds i true):=by
 have hi:i<listed.size:=by rw [D.len];exact (avx.1 ho).1
 intro j oj hj hoj e he hb
 rw [iY _ _ _ hi] at hj ⊢
 by_cases hji:j=i
 ·subst hji
  rw [ho] at hoj;cases hoj
  rw [hr e he hb];split<;>rfl
 ·rw [if_neg hji] at hj
  rw [D.closed j oj hj hoj e he hb];split<;>rfl
theorem rZ.quiet (F:Fixed P slots nt cf b ops ord X S)(hnt:nt≤a0.tmps.size)(D:rZ P G b ops ord X S ι0 m0 w0 a0 listed a w ι q){d i:Nat}{o:Oper}(hp:ord[q+d]?=some i)(ho:ops[i]?=some o)(hun:listed.getD i false=false)
  (hr:∀e∈o.after,Region.binds .any e=true→listed.getD e.on false=true) (hE:isE (X (q+d)).2=false) {ι':Inj} {w':World} (hst:Step P G ι (S q).m w ι' (S q).m w') (hheap:∀k,k<w.heap.size→w'.heap[k]?=w.heap[k]?)
  (hι:∀j,(∀blk,kF b X S (q+d)≠some (j,blk))→ι' j=ι j)
  (hblk:∀id blk,kF b X S (q+d)=some (id,blk)→fT P ι' ((gJ b X S q (Lp ord (listed.setIfInBounds i true)) (d+1)).nm ι') w'.heap (ι' id) blk∧iV blk=false∧
   (aV blk=true→((ι' id).b=w.heap.size∧(ι' id).spot=none)∧∀c e fz,w'.heap[(ι' id).b]?=some (.cells c e fz)→∀k,k<c.size→¬ (fz.1≤k∧k<fz.2)))
  (hV:(Vof S (q+d)).lt ((gJ b X S q (Lp ord (listed.setIfInBounds i true)) (d+1)).nm ι')):
  rZ P G b ops ord X S ι0 m0 w0 a0 (listed.setIfInBounds i true) (a.put o.dst (H6 ι' (Vof S (q+d)))) w' ι' q:=by
 have hi:i<listed.size:=by rw [D.len];exact (avx.1 ho).1
 have hpl:q+d<ord.length:=(S9.1 hp).1
 have hLs:=KH (listed:=listed) F.nodup hp hi
 have hLmono:∀r,Lp ord listed r=true→Lp ord (listed.setIfInBounds i true) r=true:=fun r hL=>by rw [hLs];split<;>simp [hL]
 have hLn:Lp ord listed (q+d)=false:=by rw [nH hp];exact hun
 have hnames:∀d',q+d'≤ord.length→∀j,(gJ b X S q (Lp ord listed) d').has j→ι' j=ι j:=by
  intro d' hd' j hj
  refine hι j fun blk hm=>?_
  obtain⟨y,h1,h2⟩:=hj
  have hv:=F.AY D.head (Nat.le_add_right q d) hpl hm
  rcases (F.lay D.head D.base.rm.ok (Lp ord listed) d' hd').from_ j y h1 with h | ⟨d3,h3,h4,h5⟩
  ·rw [hv] at h;cases h;cases h2
  ·rcases axm d d3 with h6 | h6 | h6
   ·have:=F.Iy (p:=q+d) (q:=q+d3) (by omega) (Ba h4) hm h5;omega
   ·subst h6;rw [hLn] at h4;cases h4
   ·have:=F.Iy (p:=q+d3) (q:=q+d) (by omega) hpl h5 hm;omega
 have hle:∀d',q+d'≤ord.length→((gJ b X S q (Lp ord listed) d').nm ι).le ((gJ b X S q (Lp ord (listed.setIfInBounds i true)) d').nm ι'):=fun d' hd'=>
  Mem.bU (fun j hj=>F.wM D.head D.base.rm.ok (D5 _) hd' (fun k _ h=>hLmono _ h) hj) (hnames d' hd')
 have hext:∀d' id blk,d'≠d→Lp ord listed (q+d')=true→kF b X S (q+d')=some (id,blk)→ι' id=ι id∧(aV blk=true→(ι id).b<w.heap.size):=by
  intro d' id blk hne hL hm
  have hl:=Ba hL
  obtain⟨g1,g2,_⟩:=D.ext d' id blk hL hm
  refine⟨hnames (d'+1) (by omega) id ⟨blk,(F.lay D.head D.base.rm.ok _ (d'+1) (by omega)).laid d' id blk (by omega) hL hm,g2⟩,fun hlv=>dx g1 hlv⟩
 have hne:∀d',Lp ord (listed.setIfInBounds i true) (q+d')=true→d'≠d→Lp ord listed (q+d')=true:=fun d' h hd=>by rw [hLs,if_neg (by omega)] at h;exact h
 have hvals:∀r,Lp ord listed r=true→H6 ι' (Vof S r)=H6 ι (Vof S r):=by
  intro r hL
  have hl:=Ba hL
  by_cases hrq:r<q
  ·exact V9 (n:=(S q).m.nm ι) hst.ext _ (D.valsl r hrq)
  ·have:=D.vals (r-q) (by rw [show q+(r-q)=r from by omega];exact hL)
   rw [show q+(r-q)=r from by omega] at this
   exact V9 (n:=(gJ b X S q (Lp ord listed) (r-q+1)).nm ι) (hnames _ (by omega)) _ this
 obtain⟨t1,t2,t3,t4⟩:=D.Zl F hnt hp ho hvals
 refine⟨D.hq,D.head,fun p hpq=>hLmono p (D.low p hpq),fun p hqp he=>?_,D.base.trans hst,?_,?_,?_,fun p hpq=>?_,t1,t2,t3,t4,D.closed' ho hr,by simpa using D.len⟩
 ·rw [hLs,if_neg (fun e=>by rw [e,hE] at he;cases he)];exact D.high p hqp he
 ·intro d' id blk hL hm
  by_cases hd:d'=d
  ·subst hd
   obtain⟨g1,g2,g3⟩:=hblk id blk hm
   refine⟨g1,g2,fun hlv=>⟨⟨by rw [(g3 hlv).1.1];exact D.base.size,(g3 hlv).1.2⟩,fun j y hj hly=>?_,(g3 hlv).2⟩⟩
   rw [(g3 hlv).1.1,hst.ext j (nR hj hly)]
   have:=dx (D.base.rm.blk j y hj) hly
   omega
  ·have hL:=hne d' hL hd
   have hl:=Ba hL
   obtain⟨g1,g2,g3⟩:=D.ext d' id blk hL hm
   obtain⟨e1,e2⟩:=hext d' id blk hd hL hm
   rw [e1]
   refine⟨g1.mono (hnames _ (by omega)) (hle _ (by omega)) fun hlv=>hheap _ (e2 hlv),g2,fun hlv=>⟨(g3 hlv).1,fun j y hj hly=>?_,fun c e fz hc=>?_⟩⟩
   ·rw [hst.ext j (nR hj hly)];exact (g3 hlv).2.1 j y hj hly
   ·rw [hheap _ (e2 hlv)] at hc;exact (g3 hlv).2.2 c e fz hc
 ·intro d1 d2 i1 i2 b1 b2 hd12 hL1 hL2 hm1 hm2 hl1 hl2
  by_cases h1:d1=d
  ·subst h1
   have hL2:=hne d2 hL2 (fun e=>hd12 e.symm)
   obtain⟨e1,e2⟩:=hext d2 i2 b2 (fun e=>hd12 e.symm) hL2 hm2
   rw [((hblk i1 b1 hm1).2.2 hl1).1.1,e1]
   have:=e2 hl2;omega
  ·have hL1:=hne d1 hL1 h1
   obtain⟨e1,e2⟩:=hext d1 i1 b1 h1 hL1 hm1
   by_cases h2:d2=d
   ·subst h2
    rw [((hblk i2 b2 hm2).2.2 hl2).1.1,e1]
    have:=e2 hl1;omega
   ·have hL2:=hne d2 hL2 h2
    rw [e1,(hext d2 i2 b2 h2 hL2 hm2).1]
    exact D.ext2 d1 d2 i1 i2 b1 b2 hd12 hL1 hL2 hm1 hm2 hl1 hl2
 ·intro d' hL
  by_cases hd:d'=d
  ·subst hd;exact hV
  ·have hL:=hne d' hL hd
   exact j5.Z8 (hle _ (by have:=Ba hL;omega)) _ (D.vals d' hL)
 ·exact j5.Z8 (Mem.bU (fun j hj=>hj) hst.ext) _ (D.valsl p hpq)
theorem rZ.effect (F:Fixed P slots nt cf b ops ord X S)(hb:m0.lim≤b)(hnt:nt≤a0.tmps.size)(D:rZ P G b ops ord X S ι0 m0 w0 a0 listed a w ι q){d i:Nat}{o:Oper}(hp:ord[q+d]?=some i)(ho:ops[i]?=some o)(hun:listed.getD i false=false)
  (hr:∀e∈o.after,Region.binds .any e=true→listed.getD e.on false=true) (hE:isE (X (q+d)).2=true) (hall:∀k,k<d→Lp ord listed (q+k)=true) {ι':Inj} {w':World} (hst:Step P G ι (S (q+d)).m w ι' (S (q+d+1)).m w')
  (hV:(Vof S (q+d)).lt ((S (q+d+1)).m.nm ι')):
  ∃ι'',H6 ι'' (Vof S (q+d))=H6 ι' (Vof S (q+d))∧rZ P G b ops ord X S ι0 m0 w0 a0 (listed.setIfInBounds i true) (a.put o.dst (H6 ι'' (Vof S (q+d)))) w' ι'' (q+d+1):=by
 have hi:i<listed.size:=by rw [D.len];exact (avx.1 ho).1
 have hpl:q+d<ord.length:=(S9.1 hp).1
 have hLs:=KH (listed:=listed) F.nodup hp hi
 have hLmono:∀r,Lp ord listed r=true→Lp ord (listed.setIfInBounds i true) r=true:=fun r hL=>by rw [hLs];split<;>simp [hL]
 have hLn:Lp ord listed (q+d)=false:=by rw [nH hp];exact hun
 have hnoE:∀k,k<d→isE (X (q+k)).2=false:=fun k hk=>by
  cases he:isE (X (q+k)).2 with
  | false=>rfl
  | true=>have h1:=D.high (q+k) (by omega) he;rw [hall k hk] at h1;cases h1
 have hmem:=F.lay_all (L:=Lp ord listed) d (by omega) fun k hk=>⟨hall k hk,hnoE k hk⟩
 have hbase:=D.lay F hb d (by omega)
 rw [hmem] at hbase
 have LFd:=F.lay D.head D.base.rm.ok (Lp ord listed) d (by omega)
 have Lsub:=LFd.sub
 have Llaid:=LFd.laid
 have Lfrom:=LFd.from_
 rw [hmem] at Lsub Llaid Lfrom
 have hmkE:kF b X S (q+d)=none:=by
  cases hm:kF b X S (q+d) with
  | none=>rfl
  | some y=>
   obtain⟨j,blk⟩:=y
   obtain⟨_,⟨o',h1,_⟩,_⟩:=F.made hpl hm
   simp [isE,h1] at hE
 let E:Nat→Prop:=fun k=>∃p blk,q+d<p∧Lp ord listed p=true∧kF b X S p=some (k,blk)
 have hhead':q+d+1=0∨isE (X (q+d+1-1)).2=true:=.inr (by rw [axG];exact hE)
 have hvoid:∀k,E k→(S (q+d+1)).m.get k=some .void:=by
  rintro k ⟨p,blk,h1,h2,h3⟩
  exact F.AY hhead' (by omega) (Ba h2) h3
 classical
 let ι'':Inj:=fun k=>if E k then ι k else ι' k
 have hE1:∀k,E k→ι'' k=ι k:=fun k hk=>if_pos hk
 have hE2:∀k,(S (q+d+1)).m.has k→ι'' k=ι' k:=fun k ⟨y,h1,h2⟩=>if_neg fun hk=>by rw [hvoid k hk] at h1;cases h1;cases h2
 have hst':Step P G ι0 m0 w0 ι'' (S (q+d+1)).m w':=(hbase.trans hst).rename hE2
 have hstι:Step P G ι (S (q+d)).m w ι'' (S (q+d+1)).m w':=hst.rename hE2
 have hok':=hst'.rm.ok
 have hc:=V9 (n:=(S (q+d+1)).m.nm ι') (ι:=ι') (ι':=ι'') hE2 _ hV
 have hnames:∀d',q+d'≤ord.length→∀j,(gJ b X S q (Lp ord listed) d').has j→ι'' j=ι j∧((S (q+d+1)).m.has j∨∃p blk,q+d<p∧p<q+d'∧Lp ord listed p=true∧kF b X S p=some (j,blk)∧iV blk=false):=by
  intro d' hd' j ⟨y,h1,h2⟩
  have hsub:(S (q+d)).m.has j→ι'' j=ι j∧(S (q+d+1)).m.has j:=fun hj=>⟨hstι.ext j hj,hstι.has j hj⟩
  rcases (F.lay D.head D.base.rm.ok (Lp ord listed) d' hd').from_ j y h1 with h | ⟨d3,h3,h4,h5⟩
  ·obtain⟨e1,e2⟩:=hsub ⟨y,Lsub j y h h2,h2⟩
   exact⟨e1,.inl e2⟩
  ·rcases axm d3 d with h6 | h6 | h6
   ·obtain⟨e1,e2⟩:=hsub ⟨y,Llaid d3 j y h6 h4 h5,h2⟩
    exact⟨e1,.inl e2⟩
   ·subst h6;rw [hLn] at h4;cases h4
   ·exact⟨hE1 j ⟨q+d3,y,by omega,h4,h5⟩,.inr ⟨q+d3,y,by omega,by omega,h4,h5,h2⟩⟩
 have hle:∀d1 d2,q+d1=q+d+1+d2→q+d1≤ord.length→((gJ b X S q (Lp ord listed) d1).nm ι).le ((gJ b X S (q+d+1) (Lp ord (listed.setIfInBounds i true)) d2).nm ι''):=by
  intro d1 d2 hd hd1
  refine Mem.bU (fun j hj=>?_) fun j hj=>(hnames d1 hd1 j hj).1
  have LF':=F.lay hhead' hok' (Lp ord (listed.setIfInBounds i true)) d2 (by omega)
  rcases (hnames d1 hd1 j hj).2 with⟨y,h1,h2⟩ | ⟨p,blk,h1,h2,h3,h4,h5⟩
  ·exact⟨y,LF'.sub j y h1 h2,h2⟩
  ·refine⟨blk,LF'.laid (p-(q+d+1)) j blk (by omega) (by rw [show q+d+1+(p-(q+d+1))=p from by omega];exact hLmono p h3) (by rw [show q+d+1+(p-(q+d+1))=p from by omega];exact h4),h5⟩
 have hold:∀d2,Lp ord (listed.setIfInBounds i true) (q+d+1+d2)=true→Lp ord listed (q+(d+1+d2))=true:=fun d2 h=>by
  rw [hLs,if_neg (by omega)] at h;rw [show q+(d+1+d2)=q+d+1+d2 from by omega];exact h
 have hnotown:∀d1 id blk,d<d1→Lp ord listed (q+d1)=true→kF b X S (q+d1)=some (id,blk)→aV blk=true→(ι id).b<w.heap.size∧∀j y,(S (q+d)).m.get j=some y→aV y=true→(ι j).b≠(ι id).b:=by
  intro d1 id blk hd1 hL hm hlv
  obtain⟨g1,g2,g3⟩:=D.ext d1 id blk hL hm
  refine⟨dx g1 hlv,fun j y hj hly=>?_⟩
  rcases Lfrom j y hj with h | ⟨d3,h3,h4,h5⟩
  ·exact (g3 hlv).2.1 j y h hly
  ·exact D.ext2 d1 d3 id j blk y (by omega) hL h4 hm h5 hlv hly
 have hframe:∀d1 id blk,d<d1→Lp ord listed (q+d1)=true→kF b X S (q+d1)=some (id,blk)→aV blk=true→w'.heap[(ι id).b]?=w.heap[(ι id).b]?:=by
  intro d1 id blk hd1 hL hm hlv
  obtain⟨g1,g2⟩:=hnotown d1 id blk hd1 hL hm hlv
  exact hst.frame _ g1 fun ⟨j,y,_,hj,hly,e⟩=>g2 j y hj hly e
 have hvals:∀r,Lp ord listed r=true→H6 ι'' (Vof S r)=H6 ι (Vof S r):=by
  intro r hL
  have hl:=Ba hL
  by_cases hrq:r<q
  ·have h1:=D.valsl r hrq
   exact V9 (n:=(S q).m.nm ι) (fun j hj=>(hnames 0 (by omega) j hj).1) _ h1
  ·have:=D.vals (r-q) (by rw [show q+(r-q)=r from by omega];exact hL)
   rw [show q+(r-q)=r from by omega] at this
   exact V9 (n:=(gJ b X S q (Lp ord listed) (r-q+1)).nm ι) (fun j hj=>(hnames _ (by omega) j hj).1) _ this
 obtain⟨t1,t2,t3,t4⟩:=D.Zl F hnt hp ho hvals
 refine⟨ι'',hc,by omega,hhead',fun p hpq=>?_,fun p hqp he=>?_,hst',?_,?_,?_,fun p hpq=>?_,t1,t2,t3,t4,D.closed' ho hr,by simpa using D.len⟩
 ·rw [hLs]
  split
  ·rfl
  ·by_cases h:p<q
   ·exact D.low p h
   ·have:=hall (p-q) (by omega)
    rwa [show q+(p-q)=p from by omega] at this
 ·rw [hLs,if_neg (by omega)];exact D.high p (by omega) he
 ·intro d2 id blk hL hm
  have hL:=hold d2 hL
  have hm':kF b X S (q+(d+1+d2))=some (id,blk):=by rw [show q+(d+1+d2)=q+d+1+d2 from by omega];exact hm
  have hl:=Ba hL
  obtain⟨g1,g2,g3⟩:=D.ext (d+1+d2) id blk hL hm'
  have e1:ι'' id=ι id:=hE1 id ⟨q+(d+1+d2),blk,by omega,hL,hm'⟩
  rw [e1]
  refine⟨g1.mono (fun j hj=>(hnames _ (by omega) j hj).1) (hle (d+1+d2+1) (d2+1) (by omega) (by omega)) fun hlv=>hframe _ id blk (by omega) hL hm' hlv,g2,fun hlv=>⟨(g3 hlv).1,fun j y hj hly=>?_,fun c e fz hcc=>?_⟩⟩
  ·obtain⟨n1,n2⟩:=hnotown (d+1+d2) id blk (by omega) hL hm' hlv
   rw [hE2 j (nR hj hly)]
   by_cases hjl:(S (q+d)).m.lim≤j
   ·rcases hst.own _ ⟨j,y,by rw [hst.lim];exact hjl,hj,hly,rfl⟩ with⟨j',y',_,hj',hly',e⟩ | h
    ·rw [← e];exact n2 j' y' hj' hly'
    ·omega
   ·have hj':(S (q+d)).m.get j=some y:=by rw [← hst.old j (by omega)];exact hj
    rw [hst.ext j (nR hj' hly)]
    exact n2 j y hj' hly
  ·rw [hframe _ id blk (by omega) hL hm' hlv] at hcc;exact (g3 hlv).2.2 c e fz hcc
 ·intro d1 d2 i1 i2 b1 b2 hd12 hL1 hL2 hm1 hm2 hl1 hl2
  have hL1:=hold d1 hL1
  have hL2:=hold d2 hL2
  rw [show q+d+1+d1=q+(d+1+d1) from by omega] at hm1
  rw [show q+d+1+d2=q+(d+1+d2) from by omega] at hm2
  rw [hE1 i1 ⟨_,b1,by omega,hL1,hm1⟩,hE1 i2 ⟨_,b2,by omega,hL2,hm2⟩]
  exact D.ext2 (d+1+d1) (d+1+d2) i1 i2 b1 b2 (by omega) hL1 hL2 hm1 hm2 hl1 hl2
 ·intro d2 hL
  have hL:=hold d2 hL
  have hl:=Ba hL
  have:=D.vals (d+1+d2) hL
  rw [show q+(d+1+d2)=q+d+1+d2 from by omega] at this
  exact j5.Z8 (hle (d+1+d2+1) (d2+1) (by omega) (by omega)) _ this
 ·by_cases h:p=q+d
  ·subst h;exact j5.Z8 (Mem.bU (fun j hj=>hj) hE2) _ hV
  ·by_cases hpq':p<q
   ·refine j5.Z8 (Mem.bU (fun j ⟨y,h1,h2⟩=>?_) fun j hj=>(hnames 0 (by omega) j hj).1) _ (D.valsl p hpq')
    exact hstι.has j ⟨y,Lsub j y h1 h2,h2⟩
   ·have:=D.vals (p-q) (by have:=hall (p-q) (by omega);exact this)
    rw [show q+(p-q)=p from by omega] at this
    refine j5.Z8 (Mem.bU (fun j hj=>?_) fun j hj=>(hnames _ (by omega) j hj).1) _ this
    have h2:=F.wM D.head D.base.rm.ok (L:=Lp ord listed) (L':=Lp ord listed) (d:=p-q+1) (d':=d) (by omega) (by omega) (fun _ _ h=>h) hj
    rw [hmem] at h2
    exact hstι.has j h2
end
section
variable {P:Program}{G:Mem}{slots:List Nat}{nt:Nat}{cf:K8}{b:Nat}{ops:Array Oper}{ord:List Nat}{X:Nat→Nat×Inst}{S:Nat→DS}
variable {ι0 ι:Inj}{m0:Mem}{w0 w:World}{a0 a:Act}{listed:Array Bool}{q:Nat}
theorem uZ {A B:Array Value}(hs:A.size=B.size){t:Nat}(h:A.getD t undef=B.getD t undef):A[t]?=B[t]?:=by
 by_cases ht:t<A.size
 ·have ht':t<B.size:=by omega
  rw [avX ht,avX ht']
  simp only [Array.getD,ht,ht',dif_pos] at h
  rw [show A.getInternal t ht=A[t] from rfl,show B.getInternal t ht'=B[t] from rfl] at h
  rw [h]
 ·rw [awZ (aw2 ht),awZ (by omega)]
theorem Dg {a a':Act}{o:Oper}(h:∀t∈vS ops o,a.tmps.getD t undef=a'.tmps.getD t undef):∀x∈o.op.operands,a.eval x=a'.eval x:=by
 intro x hx
 cases x with
 | tmp t=>exact h t (awE _ (List.mem_filterMap.2 ⟨.tmp t,by simpa using hx,rfl⟩))
 | _=>rfl
theorem wN {A B:Array Value}(hs:A.size=B.size){o:Oper}(h:∀t∈vS ops o,A.getD t undef=B.getD t undef):Region.wanted o (yielded ops A)=Region.wanted o (yielded ops B):=by
 unfold Region.wanted
 cases hg:o.guard with
 | none=>rfl
 | some p=>
  obtain⟨g,want⟩:=p
  have:yielded ops A g=yielded ops B g:=by
   unfold yielded
   cases ht:(ops[g]?).bind (·.dst) with
   | none=>rfl
   | some t=>
    have:=uZ hs (h t (awP _ (by simp [hg,ht])))
    simp [this]
  simp only [this]
theorem Sn (o:POp):sw id o=o:=by cases o<;>simp [sw]
theorem Sq (o:ROp):Nl id o=o:=by cases o<;>simp [Nl]
theorem Sr (o:LOp):PX id o=o:=by cases o<;>simp [PX]
theorem Sv (o:EOp):Hz id o=o:=by cases o<;>simp [Hz]
theorem gZ {op:Op}{done:List (Option Nat)}{ao:AOp}(h:cOp P slots done op=some ao):∀cs bl,op≠.select cs bl:=by
 rintro cs bl rfl;cases h
theorem asf {ls ls':List j5}{env env':T j5}{o:POp}(h:∀x∈mK o,Sm id ls env ls' env' x):trP o ls' env'=trP o ls env:=by
 have:=CS h;rwa [Sn] at this
theorem ash {ls ls':List j5}{env env':T j5}{o:ROp}(h:∀x∈Ju o,Sm id ls env ls' env' x)(m:Mem):trR o ls' env' m=trR o ls env m:=by
 have:=CU h m;rwa [Sq] at this
theorem asi {ls ls':List j5}{env env':T j5}{o:LOp}(h:∀x∈opsL o,Sm id ls env ls' env' x)(i:Nat):trL o ls' env' i=trL o ls env i:=by
 have:=CV h i;rwa [Sr] at this
theorem aqY {ls ls':List j5}{env env':T j5}{o:EOp}(h:∀x∈opsE o,Sm id ls env ls' env' x)(cf:K8)(m:Mem):trE o cf ls' env' m=trE o cf ls env m:=by
 have:=CW h cf m;rwa [Sv] at this
theorem wO {a a':Act}{o:Oper}(h:execOp a.eval o=execOp a'.eval o){w:World}{R:Ending→World→Prop}(hd:mJ P a'.eval o w R):mJ P a.eval o w R:=by
 unfold mJ at *;rw [h];exact hd
theorem KI {M:Nat}(F:Fixed P slots nt cf b ops ord X S)(hM:M≤ord.length)(hall:∀p,p<M→Lp ord listed p=true):∀p,p≤M→Gv ord X S listed p=(S p).env:=by
 intro p
 induction p with
 | zero=>intro _;rfl
 | succ p ih=>
  intro hp
  obtain⟨_,h2⟩:=F.ls (p:=p) (by omega)
  rw [h2,← ih (by omega)]
  show trD (X p).2.dst (vm ord S listed p) _=_
  simp [vm,hall p (by omega)]
theorem rZ.pan {r:Option Nat}(hcf:xU P G cf)(F:Fixed P slots nt cf b ops ord X S)(hb:m0.lim≤b)(hen:bM ι0 (m0.nm ι0) slots (S 0).env a0.tmps)(hnt:nt≤a0.tmps.size)(D:rZ P G b ops ord X S ι0 m0 w0 a0 listed a w ι q)
  {N i:Nat} {o:Oper} {eo:EOp} {y:j5} {m':Mem} (hp:ord[N]?=some i) (ho:ops[i]?=some o) (hun:listed.getD i false=false) (hr:∀e∈o.after,Region.binds .any e=true→listed.getD e.on false=true)
  (hx:(X N).2.op=.e eo) (h1:NC (X N).2.guard (trE eo) cf (S N).ls (S N).env (S N).m=some [⟨.pan y,m'⟩]) (hdn:∀p,N<p→p<ord.length→(X p).2.dst=none) {K:Act→World→Prop} {Q:Exit→Act→World→Prop}
  (hQ:∀ι' w',Step P G ι0 m0 w0 ι' m' w'→y.lt (m'.nm ι')→bM ι' (m'.nm ι') slots (S N).env a.tmps→Q (.panic [{v:=H6 ι' y,recovered:=false}]) a w'):wpOpIn (FR r) 0 P ops Q i K a w:=by
 have hi:i<listed.size:=by rw [D.len];exact (avx.1 ho).1
 have hpl:N<ord.length:=(S9.1 hp).1
 have hqp:q≤N:=by
  rcases awL N q with h | h
  ·have:=D.low N h;rw [nH hp,hun] at this;cases this
  ·exact h
 obtain⟨d,rfl⟩:∃d,N=q+d:=⟨N-q,by omega⟩
 have hdep:∀j,Dep ops i j→listed.getD j false=true:=fun j hj=>hj.listed D.closed fun o' ho' e he hbnd=>by rw [ho] at ho';cases ho';exact hr e he hbnd
 obtain⟨o',ho',hop,hdst,hg⟩:=F.inst (q+d) i hp
 rw [ho] at ho';cases ho'
 have s:=D.st F hb hen hnt d (by omega) (q+d) (D5 _)
 let af:Act:={tmps:=tmM ops ord S listed ι a0 (q+d),defers:=[]}
 have hlook:∀t∈vS ops o,a.tmps.getD t undef=af.tmps.getD t undef:=fun t ht=>D.looks F hnt hp ho hun hdep ht
 have hsz:a.tmps.size=af.tmps.size:=by rw [D.sz];exact lT _ |>.symm
 have hwant:=wN hsz hlook
 have hwg:=kV (tmps:=af.tmps) s hg
 have hev:(∀cs bl,o.op≠.select cs bl)→execOp a.eval o=execOp af.eval o:=fun hs=>execOp_congr o hs (Dg hlook)
 have hsm:∀y∈Jv (X (q+d)).2.op,Sm id (S (q+d)).ls (S (q+d)).env (lsM ord S listed (q+d)) (Gv ord X S listed (q+d)) y:=fun y hy=>D.opd F hpl hdep (F.opd _ i hp y hy)
 have hbaseLay:=D.lay F hb d (by omega)
 have hguard:∀y wt,(X (q+d)).2.guard=some (y,wt)→trO y (lsM ord S listed (q+d)) (Gv ord X S listed (q+d))=trO y (S (q+d)).ls (S (q+d)).env:=fun y wt h=>D.opd F hpl hdep (F.opdg _ i y wt hp h)
 have hwanted:Region.wanted o (yielded ops a.tmps)=BM (X (q+d)).2.guard (S (q+d)).ls (S (q+d)).env:=by
  rw [hwant,hwg]
  cases hgd:(X (q+d)).2.guard with
  | none=>rfl
  | some z=>obtain⟨y,wt⟩:=z;simp only [BM];rw [hguard y wt hgd]
 have hcop:∀{ao},(X (q+d)).2.op=ao→ao≠.e .bad→cOp P slots (gK ops ord (q+d)) o.op=some ao:=by
  intro ao h1 h2
  rw [hop] at h1
  unfold vR at h1
  split at h1
  ·rename_i a' ha;rw [ha,h1]
  ·exact absurd h1.symm h2
 have hE:isE (X (q+d)).2=true:=by simp [isE,hx]
 have hall:∀k,k<d→Lp ord listed (q+k)=true:=fun k hk=>by
  have hkl:q+k<ord.length:=by omega
  have:=hdep _ (F.eff (q+d) i hp hE (q+k) _ (by omega) (U1 hkl))
  rw [nH (U1 hkl)];exact this
 have hnoE:∀k,k<d→isE (X (q+k)).2=false:=fun k hk=>by
  cases he:isE (X (q+k)).2 with
  | false=>rfl
  | true=>have h1:=D.high (q+k) (by omega) he;rw [hall k hk] at h1;cases h1
 have hmem:=F.lay_all (L:=Lp ord listed) d (by omega) fun k hk=>⟨hall k hk,hnoE k hk⟩
 rw [hmem] at s hbaseLay
 have hlow:∀p,p<q+d→Lp ord listed p=true:=fun p h=>by
  by_cases hpq:p<q
  ·exact D.low p hpq
  ·have:=hall (p-q) (by omega)
   rwa [show q+(p-q)=p from by omega] at this
 have henv:bM ι ((S (q+d)).m.nm ι) slots (S (q+d)).env a.tmps:=by
  have he:=s.env
  rw [KI F (axx hpl) hlow (q+d) (D5 _)] at he
  refine⟨he.ok,he.small,fun t j ht=>?_⟩
  obtain⟨g1,v,g2,g3,g4⟩:=he.val t j ht
  refine⟨by rw [hsz];exact g1,v,g2,g3,?_⟩
  rw [← g4]
  by_cases hw:∃(i':Nat) (oj:Oper),ops[i']?=some oj∧oj.dst=some t
  ·obtain⟨i',oj,hj,hjt⟩:=hw
   obtain⟨p',hp'⟩:=avU (F.all i' (avx.1 hj).1)
   have hpl':=(S9.1 hp').1
   by_cases hlt:p'<q+d
   ·have hL:=hlow p' hlt
    rw [nH hp'] at hL
    rw [D.tw p' i' oj t hp' hL hj hjt,AZ F hnt hp' hj hjt (q+d) hlt]
    have hL':=hlow p' hlt
    simp [vm,hL']
   ·by_cases heq:p'=q+d
    ·subst heq
     obtain rfl:i'=i:=avA (hp'.symm.trans hp)
     have e1:=D.tn t fun i2 o2 (hl2:listed.getD i2 false=true) ho2 ht2=>by
      obtain rfl:=F.dsts i2 i' o2 oj t ho2 hj ht2 hjt
      rw [hun] at hl2;cases hl2
     have e2:=rz (ops:=ops) (ord:=ord) (S:=S) (listed:=listed) (ι:=ι) (a0:=a0) (t:=t) (q+d) fun r2 i2 o2 hr2 hi2 ho2 ht2=>by
      obtain rfl:=F.dsts i2 i' o2 oj t ho2 hj ht2 hjt
      have:=(aww (S9.1 hi2).1 F.nodup).1 (hi2.trans hp'.symm)
      omega
     rw [e1,e2]
    ·exfalso
     have hd0:=hdn p' (by omega) hpl'
     obtain⟨o2,ho2,_,hd2,_⟩:=F.inst p' i' hp'
     rw [hj] at ho2;cases ho2
     rw [hd2,hjt] at hd0
     have hd0:idxOf t slots 0=none:=hd0
     rw [ht] at hd0;cases hd0
  ·rw [D.tn t fun i2 o2 _ ho2 ht2=>hw ⟨i2,o2,ho2,ht2⟩,rz (q+d) fun r2 i2 o2 _ _ ho2 ht2=>hw ⟨i2,o2,ho2,ht2⟩]
 show wpOpIn (FR r) 0 P ops Q i K a w
 unfold wpOpIn
 simp only [ho]
 rw [hwanted]
 have run:trE eo cf (S (q+d)).ls (S (q+d)).env (S (q+d)).m=some [⟨.pan y,m'⟩]→o.wpIn (FR r) 0 P a w K Q:=by
  intro h1
  have hnb:AOp.e eo≠.e .bad:=by
   intro h;cases h
   cases h1
  have hc:=hcop hx hnb
  rw [hx] at hsm
  rw [← aqY hsm] at h1
  have:=wI (a:=af) hcf s hbaseLay.rm hc h1 o rfl
  refine jW (AQ (cf:=cf) hc h1) (wO (hev (gZ hc)) this) ?_ ?_ fun _=>lN
  ·rintro u w' (⟨_,hu,x,hxm,ι',g1,g2,rfl⟩ | ⟨_,_,_,_,_,_,_,h⟩)
   ·obtain rfl:=W9.1 hxm
    exact g2.elim
   ·cases h
  ·rintro c w' (⟨_,hu,_⟩ | ⟨x,hxm,y',ι',hxy,g1,g2,g3⟩)
   ·cases hu
   ·obtain rfl:=W9.1 hxm
    cases hxy
    cases g3
    exact hQ ι' w' (hbaseLay.trans g1) g2 (g1.env henv)
 cases hgd:(X (q+d)).2.guard with
 | none=>rw [hgd] at h1;exact run h1
 | some z=>
  obtain⟨y',wt⟩:=z
  rw [hgd] at h1
  have h1:bi (isB wt (trO y' (S (q+d)).ls (S (q+d)).env)) (trE eo cf (S (q+d)).ls (S (q+d)).env (S (q+d)).m) (one .undef (S (q+d)).m)=some [⟨.pan y,m'⟩]:=h1
  rw [show BM (some (y',wt)) (S (q+d)).ls (S (q+d)).env=isB wt (trO y' (S (q+d)).ls (S (q+d)).env) from rfl]
  cases hB:isB wt (trO y' (S (q+d)).ls (S (q+d)).env) with
  | true=>rw [hB] at h1;exact run h1
  | false=>
   rw [hB] at h1
   have h1:[(⟨.undef,(S (q+d)).m⟩:VM)]=[⟨.pan y,m'⟩]:=avA h1
   simp at h1
theorem Dh {x:OF}{ls:List j5}{env:T j5}{M M':Mem}{id off len cp:Nat}(hx:x ls env=.slice id off len cp)(hg:M.get id=M'.get id):aM x ls env M=aM x ls env M':=by
 have h:R4 M id off len=R4 M' id off len:=by unfold R4;rw [hg]
 unfold aM
 rw [hx]
 show ob (R4 M id off len) _=ob (R4 M' id off len) _
 rw [h]
theorem rZ.op {r:Option Nat}(hcf:xU P G cf)(F:Fixed P slots nt cf b ops ord X S)(hb:m0.lim≤b)(hen:bM ι0 (m0.nm ι0) slots (S 0).env a0.tmps)(hnt:nt≤a0.tmps.size)(D:rZ P G b ops ord X S ι0 m0 w0 a0 listed a w ι q)
  {i:Nat} {o:Oper} (ho:ops[i]?=some o) (hun:listed.getD i false=false) (hr:∀e∈o.after,Region.binds .any e=true→listed.getD e.on false=true) (hD:∀p,ord[p]?=some i→DStep cf b (X p) (S p) (S (p+1))) {K:Act→World→Prop} {Q:Exit→Act→World→Prop}
  (hK:∀a' w' ι' q',rZ P G b ops ord X S ι0 m0 w0 a0 (listed.setIfInBounds i true) a' w' ι' q'→K a' w'):wpOpIn (FR r) 0 P ops Q i K a w:=by
 have hi:i<listed.size:=by rw [D.len];exact (avx.1 ho).1
 obtain⟨p,hp⟩:=avU (F.all i (avx.1 ho).1)
 have hpl:p<ord.length:=(S9.1 hp).1
 have hqp:q≤p:=by
  rcases awL p q with h | h
  ·have:=D.low p h;rw [nH hp,hun] at this;cases this
  ·exact h
 obtain⟨d,rfl⟩:∃d,p=q+d:=⟨p-q,by omega⟩
 have hdep:∀j,Dep ops i j→listed.getD j false=true:=fun j hj=>hj.listed D.closed fun o' ho' e he hbnd=>by rw [ho] at ho';cases ho';exact hr e he hbnd
 obtain⟨o',ho',hop,hdst,hg⟩:=F.inst (q+d) i hp
 rw [ho] at ho';cases ho'
 have s:=D.st F hb hen hnt d (by omega) (q+d) (D5 _)
 let af:Act:={tmps:=tmM ops ord S listed ι a0 (q+d),defers:=[]}
 have hlook:∀t∈vS ops o,a.tmps.getD t undef=af.tmps.getD t undef:=fun t ht=>D.looks F hnt hp ho hun hdep ht
 have hsz:a.tmps.size=af.tmps.size:=by rw [D.sz];exact lT _ |>.symm
 have hwant:=wN hsz hlook
 have hwg:=kV (tmps:=af.tmps) s hg
 have hev:(∀cs bl,o.op≠.select cs bl)→execOp a.eval o=execOp af.eval o:=fun hs=>execOp_congr o hs (Dg hlook)
 have hLs:=KH (listed:=listed) F.nodup hp hi
 have hLmono:∀r,Lp ord listed r=true→Lp ord (listed.setIfInBounds i true) r=true:=fun r hL=>by rw [hLs];split<;>simp [hL]
 have hsm:∀y∈Jv (X (q+d)).2.op,Sm id (S (q+d)).ls (S (q+d)).env (lsM ord S listed (q+d)) (Gv ord X S listed (q+d)) y:=fun y hy=>D.opd F hpl hdep (F.opd _ i hp y hy)
 have hbaseLay:=D.lay F hb d (by omega)
 have LFd:=F.lay D.head D.base.rm.ok (Lp ord listed) d (by omega)
 obtain⟨v,_,_,hs⟩:=hD (q+d) hp
 have hVof:Vof S (q+d)=v:=by simp [Vof,‹(S (q+d+1)).ls=_›]
 have hguard:∀y wt,(X (q+d)).2.guard=some (y,wt)→trO y (lsM ord S listed (q+d)) (Gv ord X S listed (q+d))=trO y (S (q+d)).ls (S (q+d)).env:=fun y wt h=>D.opd F hpl hdep (F.opdg _ i y wt hp h)
 have hwanted:Region.wanted o (yielded ops a.tmps)=BM (X (q+d)).2.guard (S (q+d)).ls (S (q+d)).env:=by
  rw [hwant,hwg]
  cases hgd:(X (q+d)).2.guard with
  | none=>rfl
  | some z=>obtain⟨y,wt⟩:=z;simp only [BM];rw [hguard y wt hgd]
 have hle1:((gJ b X S q (Lp ord listed) d).nm ι).le ((gJ b X S q (Lp ord (listed.setIfInBounds i true)) (d+1)).nm ι):=
  Mem.bU (fun j hj=>F.wM D.head D.base.rm.ok (by omega) (by omega) (fun k _ h=>hLmono _ h) hj) fun _ _=>rfl
 have still:isE (X (q+d)).2=false→kF b X S (q+d)=none→(Vof S (q+d)).lt ((gJ b X S q (Lp ord listed) d).nm ι)→K (a.put o.dst (H6 ι (Vof S (q+d)))) w:=by
  intro hE hmk hlt
  exact hK _ _ ι q (D.quiet F hnt hp ho hun hr hE (ι':=ι) (w':=w) (Step.refl D.base.rm) (fun _ _=>rfl) (fun _ _=>rfl) (fun id blk h=>by rw [hmk] at h;cases h) (j5.Z8 hle1 _ hlt))
 show wpOpIn (FR r) 0 P ops Q i K a w
 unfold wpOpIn
 simp only [ho]
 rw [hwanted]
 have skip:isE (X (q+d)).2=false→kF b X S (q+d)=none→Vof S (q+d)=.undef→(∀f,o.about P w a.eval=some f→(FR r).fn f)∧K (a.put o.dst undef) w:=by
  intro hE hmk hv
  refine⟨fun _ _=>trivial,?_⟩
  have:=still hE hmk (by rw [hv];trivial)
  rw [hv,jh] at this
  exact this
 have hcop:∀{ao},(X (q+d)).2.op=ao→ao≠.e .bad→cOp P slots (gK ops ord (q+d)) o.op=some ao:=by
  intro ao h1 h2
  rw [hop] at h1
  unfold vR at h1
  split at h1
  ·rename_i a' ha;rw [ha,h1]
  ·exact absurd h1.symm h2
 cases hx:(X (q+d)).2.op with
 | p po=>
  rw [hx] at hs hsm
  obtain⟨h1,_,_⟩:=hs
  have hE:isE (X (q+d)).2=false:=by simp [isE,hx]
  have hmk:kF b X S (q+d)=none:=by simp [kF,hx]
  have hc:=hcop hx (by simp)
  have run:trP po (S (q+d)).ls (S (q+d)).env=some v→o.wpIn (FR r) 0 P a w K Q:=by
   intro h1
   rw [← asf hsm] at h1
   obtain⟨g1,g2⟩:=nY (a:=af) s hc h1
   refine gy (nE hc (fun _ _ h=>by cases h)) (R:=fun u w'=>u=H6 ι v∧w'=w) ?_ ?_
   ·exact Y9 (by rw [hev (gZ hc)];exact g2 o rfl w) ⟨rfl,rfl⟩
   ·rintro u w' ⟨rfl,rfl⟩
    have:=still hE hmk (by rw [hVof];exact g1)
    rwa [hVof] at this
  cases hgd:(X (q+d)).2.guard with
  | none=>rw [hgd] at h1;exact run h1
  | some z=>
   obtain⟨y,wt⟩:=z
   rw [hgd] at h1
   have h1:bi (isB wt (trO y (S (q+d)).ls (S (q+d)).env)) (trP po (S (q+d)).ls (S (q+d)).env) (some .undef)=some v:=h1
   rw [show BM (some (y,wt)) (S (q+d)).ls (S (q+d)).env=isB wt (trO y (S (q+d)).ls (S (q+d)).env) from rfl]
   cases hB:isB wt (trO y (S (q+d)).ls (S (q+d)).env) with
   | true=>rw [hB] at h1;exact run h1
   | false=>rw [hB] at h1;cases h1;exact skip hE hmk hVof
 | r ro=>
  rw [hx] at hs hsm
  obtain⟨h1,_,_,_⟩:=hs
  have hE:isE (X (q+d)).2=false:=by simp [isE,hx]
  have hmk:kF b X S (q+d)=none:=by simp [kF,hx]
  have hc:=hcop hx (by simp)
  have runL:trR ro (S (q+d)).ls (S (q+d)).env (gJ b X S q (Lp ord listed) d)=some v→o.wpIn (FR r) 0 P a w K Q:=by
   intro h1
   rw [← ash hsm] at h1
   obtain⟨g1,g2⟩:=nZ (a:=af) s hbaseLay.rm (qP hc) h1
   refine gy (nE hc (fun _ _ h=>by cases h)) (R:=fun u w'=>u=H6 ι v∧w'=w) ?_ ?_
   ·exact Y9 (by rw [hev (gZ hc)];exact g2 o rfl) ⟨rfl,rfl⟩
   ·rintro u w' ⟨rfl,rfl⟩
    have:=still hE hmk (by rw [hVof];exact g1)
    rwa [hVof] at this
  rcases h1 with⟨h1,h2⟩ | ⟨hgn,y,id,off,len,cp,rfl,hv1,hv2,hv3,hv4⟩
  case inr=>
   obtain⟨q0,k1,k2,k3⟩:=Gu X (q+d)
   have hq0:q≤q0:=by
    rcases D.head with h0 | hh
    ·omega
    ·rcases awL q0 q with hlt | hge
     ·have:=k3 (q-1) (by omega) (by omega)
      rw [this] at hh;cases hh
     ·exact hge
   obtain⟨d0,hd0⟩:∃d0,q+d=q0+d0:=⟨q+d-q0,by omega⟩
   have hhd:hd (S (q+d)).m (S (q+d)).gs=(S q0).m:=by
    obtain⟨rr,r1,r2⟩:=F.gs k2 d0 (by omega)
    rw [← hd0] at r1 r2
    cases rr with
    | succ rr=>
     obtain⟨pos,e,g1,g2,_,g4,_⟩:=r2 0 (by omega)
     rw [k3 pos g1 g2] at g4;cases g4
    | zero=>
     cases hgs:(S (q+d)).gs with
     | nil=>rw [hgs] at r1;simp at r1
     | cons g gs=>rw [hgs] at r1;simp at r1;exact r1
   rw [hhd] at hv2
   have hv2:=qd hv2
   obtain⟨y1,hy1⟩:∃y1,(S (q+d)).m.get id=some y1:=by
    cases hgt:(S (q+d)).m.get id with
    | none=>rw [hgt] at hv3;cases hv3
    | some y1=>exact⟨y1,rfl⟩
   rw [hd0] at hy1 k3
   rcases F.since (q:=q0) d0 (by omega) k3 hy1 with h | ⟨p',p1,p2,p3⟩
   ·rw [hv2] at h
    cases h
    rw [hd0,hy1] at hv3;cases hv3
   rw [← hd0] at hy1 p2
   obtain⟨x,hxo⟩:∃x,bK P slots (gK ops ord (q+d)) x=some y:=by
    have:=qP hc
    revert this
    generalize o.op=op'
    intro h
    cases h with
    | bytesStr _ _ _ hx=>exact⟨_,hx⟩
   have hlt:=(I5 (a:=af) s hxo).2
   have hop1:trO y (lsM ord S listed (q+d)) (Gv ord X S listed (q+d))=trO y (S (q+d)).ls (S (q+d)).env:=D.opd F hpl hdep (F.opd _ i hp y (by rw [hx];simp [Jv,Ju]))
   rw [hop1,hv1] at hlt
   simp only [j5.lt] at hlt
   obtain⟨y',g1,g2⟩:=hlt
   have hget:(gJ b X S q (Lp ord listed) d).get id=(S (q+d)).m.get id:=by
    rcases LFd.from_ id y' g1 with h | ⟨d',e1,e2,e3⟩
    ·have:=F.AY D.head (show q≤p' by omega) (by omega) p3
     rw [this] at h
     cases h;cases g2
    ·rcases axm (q+d') p' with hlt | heq | hgt
     ·exact absurd (F.Iy hlt (by omega) e3 p3) (awX _)
     ·subst heq
      rw [e3] at p3
      cases p3
      rw [g1,hy1]
     ·exact absurd (F.Iy hgt (by omega) p3 e3) (awX _)
   rw [hgn]
   refine runL ?_
   show aM (trO y) _ _ _=_
   rw [Dh hv1 hget];exact hv4
  obtain⟨rr,hr1,hr2⟩:=F.gs D.head d (by omega)
  have hrc:rr≤(X (q+d)).1:=by
   rw [F.cnt (q+d) i ro hp hx]
   refine ru _ _ _ fun k hk=>?_
   obtain⟨pos,e,g1,g2,g3,g4,g5⟩:=hr2 k hk
   refine⟨e,g5,?_⟩
   cases hm:mOf (masks ops.toList) i e with
   | false=>rfl
   | true=>
    have h3:=hdep e (kW ops i e hm)
    have h4:=D.high pos g1 g4
    rw [nH g3,h3] at h4;cases h4
  have hread:Ga (X (q+d)).2.guard (trR ro) (S (q+d)).ls (S (q+d)).env (S q).m=some v:=by
   cases rr with
   | zero=>
    have:hd (S (q+d)).m (S (q+d)).gs=(S q).m:=by
     cases hgs:(S (q+d)).gs with
     | nil=>rw [hgs] at hr1;simp at hr1
     | cons g gs=>rw [hgs] at hr1;simp at hr1;exact hr1
    rw [this] at h1;exact h1
   | succ rr=>
    obtain⟨g,g1,g2⟩:=wL h2 rr (by omega)
    have:g=(S q).m:=by
     cases hgs:(S (q+d)).gs with
     | nil=>rw [hgs] at hr1;simp at hr1
     | cons g' gs=>
      rw [hgs] at hr1 g1
      have g1:gs[rr]?=some g:=g1
      simp at hr1;rw [g1] at hr1;exact avA hr1
    rw [this] at g2;exact g2
  have run:trR ro (S (q+d)).ls (S (q+d)).env (S q).m=some v→o.wpIn (FR r) 0 P a w K Q:=fun h1=>runL (Sl LFd.sub h1)
  cases hgd:(X (q+d)).2.guard with
  | none=>rw [hgd] at hread;exact run hread
  | some z=>
   obtain⟨y,wt⟩:=z
   rw [hgd] at hread
   have hread:bi (isB wt (trO y (S (q+d)).ls (S (q+d)).env)) (trR ro (S (q+d)).ls (S (q+d)).env (S q).m) (some .undef)=some v:=hread
   rw [show BM (some (y,wt)) (S (q+d)).ls (S (q+d)).env=isB wt (trO y (S (q+d)).ls (S (q+d)).env) from rfl]
   cases hB:isB wt (trO y (S (q+d)).ls (S (q+d)).env) with
   | true=>rw [hB] at hread;exact run hread
   | false=>rw [hB] at hread;cases hread;exact skip hE hmk hVof
 | a lo=>
  rw [hx] at hs hsm
  obtain⟨res,h1,hv,_,_,_,_⟩:=hs
  have hE:isE (X (q+d)).2=false:=by simp [isE,hx]
  have hc:=hcop hx (by simp)
  have hmk0:res.2=none→kF b X S (q+d)=none:=fun h=>by
   obtain⟨u,bl⟩:=res
   obtain rfl:bl=none:=h
   simp [kF,hx,h1]
  have run:trL lo (S (q+d)).ls (S (q+d)).env (b+(X (q+d)).1)=some res→o.wpIn (FR r) 0 P a w K Q:=by
   intro h3
   rw [← asi hsm] at h3
   have hnot:∀bl,res.2=some bl→¬ ((gJ b X S q (Lp ord listed) d).nm ι) (b+(X (q+d)).1):=by
    rintro bl hbl ⟨y,g1,g2⟩
    have hm:kF b X S (q+d)=some (b+(X (q+d)).1,bl):=by
     obtain⟨u,bl'⟩:=res
     obtain rfl:bl'=some bl:=hbl
     simp [kF,hx,h1]
    rw [LFd.later (q+d) _ bl (D5 _) hpl hm] at g1
    cases g1;cases g2
   obtain⟨u,bl⟩:=res
   cases bl with
   | none=>
    have hmk:=hmk0 rfl
    have hs':=make_none (a:=af) s hbaseLay.rm hc h3 w
    refine gy (nE hc (fun _ _ h=>by cases h)) (R:=fun x w'=>x=H6 ι u∧w'=w) ?_ ?_
    ·exact Y9 (by rw [hev (gZ hc)];exact hs'.2 o rfl w) ⟨rfl,rfl⟩
    ·rintro x w' ⟨rfl,rfl⟩
     have:=still hE hmk (by rw [hVof,hv];exact hs'.1)
     rwa [hVof,hv] at this
   | some bl=>
    have hm:kF b X S (q+d)=some (b+(X (q+d)).1,bl):=by simp [kF,hx,h1]
    have hn:=hnot bl rfl
    have hs':=oo (a:=af) s (fun _ _=>rfl) hn (vw hc) h3 w
    have hid:∀l:Loc,∀j,(∀blk,kF b X S (q+d)≠some (j,blk))→(ι.upd (b+(X (q+d)).1) l) j=ι j:=fun l j hj=>ι.upd_ne l fun e=>hj bl (by rw [e];exact hm)
    have hbn:¬ (S q).m.has (b+(X (q+d)).1):=fun ⟨y,g1,g2⟩=>hn ⟨y,LFd.sub _ y g1 g2,g2⟩
    have hupd:∀l:Loc,∀j,(gJ b X S q (Lp ord listed) d).has j→(ι.upd (b+(X (q+d)).1) l) j=ι j:=fun l j hj=>ι.upd_ne l fun e=>hn (e▸hj)
    have hle2:∀l:Loc,((gJ b X S q (Lp ord listed) d).nm ι).le ((gJ b X S q (Lp ord (listed.setIfInBounds i true)) (d+1)).nm (ι.upd (b+(X (q+d)).1) l)):=fun l=>
     Mem.bU (fun j hj=>F.wM D.head D.base.rm.ok (by omega) (by omega) (fun k _ h=>hLmono _ h) hj) (hupd l)
    have hself:iV bl=false→(gJ b X S q (Lp ord (listed.setIfInBounds i true)) (d+1)).has (b+(X (q+d)).1):=fun hvb=>
     ⟨bl,(F.lay D.head D.base.rm.ok _ (d+1) (by omega)).laid d _ bl (by omega) (by rw [hLs,if_pos rfl]) hm,hvb⟩
    have hcapl:∀l:Loc,((gJ b X S q (Lp ord (listed.setIfInBounds i true)) (d+1)).nm (ι.upd (b+(X (q+d)).1) l)).cap (b+(X (q+d)).1)=l.cap:=fun l=>by
     show ((ι.upd (b+(X (q+d)).1) l) (b+(X (q+d)).1)).cap=l.cap
     rw [Inj.V8]
    cases hs' with
    | made l obj w' hmk=>
     obtain⟨g1,g2⟩:=hmk.blk _ (hle2 l) (hself hmk.live) (hcapl l)
     refine gy (nE hc (fun _ _ h=>by cases h)) (R:=fun x w''=>x=H6 (ι.upd (b+(X (q+d)).1) l) u∧w''=w') ?_ ?_
     ·exact Y9 (by rw [hev (gZ hc)];exact hmk.run o rfl) ⟨rfl,rfl⟩
     ·rintro x w'' ⟨rfl,rfl⟩
      have:=D.quiet F hnt hp ho hun hr hE (ι':=ι.upd (b+(X (q+d)).1) l) (w':=w'') (Step.push D.base.rm hmk.grew fun j hj=>ι.upd_ne l fun e=>hbn (e▸hj))
       (fun k hk=>by rw [hmk.grew.heap];exact (axq hk).trans (avX hk).symm) (hid l) (fun id blk hm'=>?_) (by rw [hVof,hv];exact g2)
      ·rw [hVof,hv] at this
       exact hK _ _ _ q this
      ·rw [hm] at hm';cases hm'
       rw [Inj.V8]
       refine⟨by rw [hmk.grew.heap];exact g1,hmk.live,fun _=>⟨⟨hmk.loc,hmk.spot⟩,fun c e fz hcc=>?_⟩⟩
       rw [hmk.grew.heap,hmk.loc,fZ] at hcc
       exact hmk.free c e fz (avA hcc)
    | @tail _ pp l hpn hbb hgv hlt=>
     refine gy (nE hc (fun _ _ h=>by cases h)) (R:=fun x w''=>x=H6 (ι.upd (b+(X (q+d)).1) l) u∧w''=w) ?_ ?_
     ·exact Y9 (by rw [hev (gZ hc)];exact hgv o rfl w) ⟨rfl,rfl⟩
     ·rintro x w'' ⟨rfl,rfl⟩
      have:=D.quiet F hnt hp ho hun hr hE (ι':=ι.upd (b+(X (q+d)).1) l) (w':=w'') ((Step.refl D.base.rm).rename fun j hj=>ι.upd_ne l fun e=>hbn (e▸hj))
       (fun k hk=>rfl) (hid l) (fun id blk hm'=>?_) (by rw [hVof,hv];exact hlt _ (hle2 l) (hself rfl) (hcapl l))
      ·rw [hVof,hv] at this
       exact hK _ _ _ q this
      ·rw [hm] at hm';cases hm'
       rw [Inj.V8]
       refine⟨⟨(hle2 l pp hpn).1,?_⟩,rfl,fun hl=>by cases hl⟩
       rw [hupd l pp hpn];exact hbb
  cases hgd:(X (q+d)).2.guard with
  | none=>rw [hgd] at h1;exact run h1
  | some z=>
   obtain⟨y,wt⟩:=z
   have h1':=h1
   rw [hgd] at h1'
   have h1':bi (isB wt (trO y (S (q+d)).ls (S (q+d)).env)) (trL lo (S (q+d)).ls (S (q+d)).env (b+(X (q+d)).1)) (some (.undef,none))=some res:=h1'
   rw [show BM (some (y,wt)) (S (q+d)).ls (S (q+d)).env=isB wt (trO y (S (q+d)).ls (S (q+d)).env) from rfl]
   cases hB:isB wt (trO y (S (q+d)).ls (S (q+d)).env) with
   | true=>rw [hB] at h1';exact run h1'
   | false=>
    rw [hB] at h1';cases h1'
    exact skip hE (hmk0 rfl) (by rw [hVof,hv])
 | e eo=>
  rw [hx] at hs hsm
  obtain⟨h1,_,hnp⟩:=hs
  have hE:isE (X (q+d)).2=true:=by simp [isE,hx]
  have hall:∀k,k<d→Lp ord listed (q+k)=true:=fun k hk=>by
   have hkl:q+k<ord.length:=by omega
   have:=hdep _ (F.eff (q+d) i hp hE (q+k) _ (by omega) (U1 hkl))
   rw [nH (U1 hkl)];exact this
  have hnoE:∀k,k<d→isE (X (q+k)).2=false:=fun k hk=>by
   cases he:isE (X (q+k)).2 with
   | false=>rfl
   | true=>have h1:=D.high (q+k) (by omega) he;rw [hall k hk] at h1;cases h1
  have hmem:=F.lay_all (L:=Lp ord listed) d (by omega) fun k hk=>⟨hall k hk,hnoE k hk⟩
  rw [hmem] at s hbaseLay
  have fin:∀ι' w',Step P G ι (S (q+d)).m w ι' (S (q+d+1)).m w'→v.lt ((S (q+d+1)).m.nm ι')→K (a.put o.dst (H6 ι' v)) w':=by
   intro ι' w' hst hlt
   obtain⟨ι'',g1,g2⟩:=D.effect F hb hnt hp ho hun hr hE hall hst (by rw [hVof];exact hlt)
   rw [g1,hVof] at g2
   exact hK _ _ _ _ g2
  have run:trE eo cf (S (q+d)).ls (S (q+d)).env (S (q+d)).m=some [⟨v,(S (q+d+1)).m⟩]→o.wpIn (FR r) 0 P a w K Q:=by
   intro h1
   have hnb:AOp.e eo≠.e .bad:=by
    intro h;cases h
    cases h1
   have hc:=hcop hx hnb
   rw [← aqY hsm] at h1
   have:=wI (a:=af) hcf s hbaseLay.rm hc h1 o rfl
   refine jW (AQ (cf:=cf) hc h1) (wO (hev (gZ hc)) this) ?_ ?_ fun _=>lN
   ·rintro u w' (⟨_,hu,x,hxm,ι',g1,g2,rfl⟩ | ⟨_,_,_,_,_,_,_,h⟩)
    ·cases hu
     obtain rfl:=W9.1 hxm
     exact fin ι' w' g1 g2
    ·cases h
   ·rintro c w' (⟨_,hu,_⟩ | ⟨x,hxm,y,_,hxy,_⟩)
    ·cases hu
    ·obtain rfl:=W9.1 hxm
     exact absurd ⟨y,hxy⟩ hnp
  cases hgd:(X (q+d)).2.guard with
  | none=>rw [hgd] at h1;exact run h1
  | some z=>
   obtain⟨y,wt⟩:=z
   rw [hgd] at h1
   have h1:bi (isB wt (trO y (S (q+d)).ls (S (q+d)).env)) (trE eo cf (S (q+d)).ls (S (q+d)).env (S (q+d)).m) (one .undef (S (q+d)).m)=some [⟨v,(S (q+d+1)).m⟩]:=h1
   rw [show BM (some (y,wt)) (S (q+d)).ls (S (q+d)).env=isB wt (trO y (S (q+d)).ls (S (q+d)).env) from rfl]
   cases hB:isB wt (trO y (S (q+d)).ls (S (q+d)).env) with
   | true=>rw [hB] at h1;exact run h1
   | false=>
    rw [hB] at h1
    have h1:[(⟨.undef,(S (q+d)).m⟩:VM)]=[⟨v,(S (q+d+1)).m⟩]:=avA h1
    simp only [List.cons.injEq,VM.mk.injEq,and_true] at h1
    obtain⟨hv,hm⟩:=h1
    refine⟨fun _ _=>trivial,?_⟩
    have:=fin ι w (by rw [← hm];exact Step.refl hbaseLay.rm) (by rw [← hv];trivial)
    rw [← hv,jh] at this
    exact this
where
 make_none {P:Program} {G:Mem} {ι:Inj} {m:Mem} {w0:World} {slots:List Nat} {done:List (Option Nat)} {ls:List j5} {env:T j5} {a:Act} (s:St P ι (m.nm ι) slots done ls env a.tmps) (hm:RM P G ι m w0.heap) {op:Op} {lo:LOp} (h:cOp P slots done op=some (.a lo)) {u:j5} {nid:Nat}
   (hv:trL lo ls env nid=some (u,none)) (w:World):u.lt (m.nm ι)∧Gives P a.eval op (H6 ι u):=by
  have hn:¬ (m.nm ι) m.next:=fun ⟨_,h3,_⟩=>awX _ (Mem.M8 hm.ok h3)
  have hv':=sl_place hv m.next
  have hs:=oo (a:=a) s (fun _ _=>rfl) hn (vw h) hv' w
  cases hs with
  | none h1 h2=>exact⟨h1,h2⟩
 sl_place {lo:LOp} {ls:List j5} {env:T j5} {u:j5} {nid:Nat} (hv:trL lo ls env nid=some (u,none)) (nid':Nat):trL lo ls env nid'=some (u,none):=by
  cases lo with
  | alloc z=>cases hv
  | box x=>cases hv
  | mkMap=>cases hv
  | buildSlice es len z ps=>obtain⟨c,h1,h⟩:=J6 hv;obtain⟨c2,h2,h⟩:=J6 h;cases h
  | mkSlice es by' z l c=>
   obtain⟨_,_,_,h⟩:=eU hv
   obtain⟨_,_,_,h⟩:=eU h
   obtain⟨_,h⟩:=L6 h
   obtain⟨_,h⟩:=L6 h
   obtain⟨_,h⟩:=L6 h
   cases h
  | strBytes x=>obtain⟨_,_,h⟩:=mX hv;obtain⟨_,_,h⟩:=J6 h;cases h
  | sl es x lo hi=>
   have key:∀l h,R9 nid es (trO x ls env) l h=some (u,none)→R9 nid' es (trO x ls env) l h=some (u,none):=by
    intro l h hs
    generalize trO x ls env=X at hs
    cases X with
    | nilSlice=>exact hs
    | slice=>exact hs
    | sliceU id off len es'=>
     have hu:∀hh,R9.unk nid es l id off len es' hh=some (u,none)→R9.unk nid' es l id off len es' hh=some (u,none):=by
      intro hh hs
      unfold R9.unk at hs ⊢
      obtain⟨q1,hs⟩:=L6 hs
      obtain⟨q2,hs⟩:=L6 hs
      obtain⟨q3,hs⟩:=L6 hs
      rw [q1,q2,q3]
      simp only [aJ]
      cases hb:Nat.blt l len with
      | true=>rw [hb] at hs;exact hs
      | false=>
       rw [hb] at hs
       simp only [aY] at hs ⊢
       cases hz:Nat.beq l 0 with
       | true=>rw [hz] at hs;exact hs
       | false=>rw [hz] at hs;cases hs
     cases h with
     | none=>exact hu len hs
     | some hh=>exact hu hh hs
    | _=>exact hs
   have hv:fP (su lo) 0 ls env (fun l=>Option.rec (R9 nid es (trO x ls env) l none) (fun h=>oQ (h ls env) fun h=>R9 nid es (trO x ls env) l (some h)) (su hi))=some (u,none):=hv
   show fP (su lo) 0 ls env (fun l=>Option.rec (R9 nid' es (trO x ls env) l none) (fun h=>oQ (h ls env) fun h=>R9 nid' es (trO x ls env) l (some h)) (su hi))=some (u,none)
   have inner:∀l,(Option.rec (R9 nid es (trO x ls env) l none) (fun h=>oQ (h ls env) fun h=>R9 nid es (trO x ls env) l (some h)) (su hi):LR)=some (u,none)→
     (Option.rec (R9 nid' es (trO x ls env) l none) (fun h=>oQ (h ls env) fun h=>R9 nid' es (trO x ls env) l (some h)) (su hi):LR)=some (u,none):=by
    intro l h
    cases ht:su hi with
    | none=>rw [ht] at h;exact key l none h
    | some g=>
     rw [ht] at h
     obtain⟨k,n,h1,h2⟩:=eU h
     show oQ (g ls env) (fun h=>R9 nid' es (trO x ls env) l (some h))=_
     rw [h1];exact key l (some n) h2
   cases ht:su lo with
   | none=>rw [ht] at hv;exact inner 0 hv
   | some g=>
    rw [ht] at hv
    obtain⟨k,n,h1,h2⟩:=eU hv
    show oQ (g ls env) _=_
    rw [h1];exact inner n h2
end
theorem lU {α:Type}{f:α→Option Nat}:∀{l:List α},(l.filterMap f).Nodup→∀{i j:Nat} {x y:α} {t:Nat},l[i]?=some x→l[j]?=some y→f x=some t→f y=some t→i=j
 | [],_,i,j,x,y,t,hi,_,_,_=>by simp at hi
 | z::l,h,i,j,x,y,t,hi,hj,hx,hy=>by
  have hmem:∀{k:Nat} {u:α},l[k]?=some u→f u=some t→t∈l.filterMap f:=fun hk hu=>List.mem_filterMap.2 ⟨_,avG hk,hu⟩
  cases hz:f z with
  | none=>
   rw [List.filterMap_cons_none hz] at h
   cases i with
   | zero=>simp at hi;subst hi;rw [hz] at hx;cases hx
   | succ i=>
    cases j with
    | zero=>simp at hj;subst hj;rw [hz] at hy;cases hy
    | succ j=>exact congrArg Nat.succ (lU h (i:=i) (j:=j) (by simpa using hi) (by simpa using hj) hx hy)
  | some u=>
   rw [List.filterMap_cons_some hz] at h
   obtain⟨h1,h2⟩:=axw.1 h
   cases i with
   | zero=>
    simp at hi;subst hi
    rw [hz] at hx;cases hx
    cases j with
    | zero=>rfl
    | succ j=>exact absurd (hmem (by simpa using hj) hy) h1
   | succ i=>
    cases j with
    | zero=>
     simp at hj;subst hj
     rw [hz] at hy;cases hy
     exact absurd (hmem (by simpa using hi) hx) h1
    | succ j=>exact congrArg Nat.succ (lU h2 (i:=i) (j:=j) (by simpa using hi) (by simpa using hj) hx hy)
section
variable {P:Program}{G:Mem}{slots:List Nat}{nt:Nat}{cf:K8}{ops:Array Oper}
theorem Di {α:Type}(l:List α)(p k:Nat)(hp:p≤l.length)(hk:k<p):(l.take p).reverse[k]?=l[p-1-k]?:=by
 rw [List.getElem?_reverse (by simp;omega),awH,awJ,if_pos (by omega)]
 congr 1;omega
theorem Sw {ord:List Nat}{X:Nat→Nat×Inst}{insts:List Inst}(hlen:insts.length=ord.length)(hX:∀p x,insts[p]?=some x→(X p).2=x):∀p,p≤ord.length→
  Gs ord X p=(((((ord.zip insts).take p).filter fun y=>isE y.2).map (·.1)).reverse):=by
 intro p
 induction p with
 | zero=>intro _;rfl
 | succ p ih=>
  intro hp
  have h1:p<(ord.zip insts).length:=by rw [List.length_zip];omega
  have h2:(ord.zip insts)[p]=(ord[p]'(by omega),insts[p]'(by omega)):=List.getElem_zip ..
  rw [awd h1,List.filter_append,awN,List.reverse_append,← ih (by omega)]
  have h3:(X p).2=insts[p]'(by omega):=hX p _ (U1 (by omega))
  have h4:ord.getD p 0=ord[p]'(by omega):=by rw [avF,U1 (by omega)];rfl
  simp only [Gs,h2,h3,h4]
  cases he:isE (insts[p]'(by omega))<;>simp [he]
theorem xX {α:Type}(f:α→Bool)(l:List α){p q:Nat}(hpq:p<q)(hp:p<l.length)(hf:f l[p]=true):((l.take p).filter f).length<((l.take q).filter f).length:=by
 have h1:l.take (p+1)=(l.take q).take (p+1):=by rw [List.take_take];congr 1;omega
 have h2:((l.take (p+1)).filter f).length≤((l.take q).filter f).length:=by
  rw [h1]
  exact ((List.take_sublist _ _).filter f).length_le
 rw [awd hp,List.filter_append] at h2
 simp [hf] at h2
 omega
theorem Og {n:Nat}{l:List (Nat×Inst)}(hcl:Cj P slots ops=some (.dreg n l))(hin:∀(i:Nat)(o:Oper)(t:Tmp),ops[i]?=some o→o.dst=some t→t<nt){b:Nat}{S:Nat→DS}(hls:(S 0).ls=[])(hgs:(S 0).gs=[(S 0).m])(hst:∀p x,l[p]?=some x→KA cf b x (S p) (S (p+1))):
  ∃ord X,Fixed P slots nt cf b ops ord X S∧l.length=ord.length∧∀p x,l[p]?=some x→X p=x:=by
 unfold Cj at hcl
 split at hcl
 ·cases hcl
 ·rename_i insts hci
  split at hcl
  ·rename_i hok
   cases hcl
   generalize hord:canon (HZ ops) (masks ops.toList) ops.size=ord at *
   simp only [Qd,avv] at hok
   obtain⟨⟨⟨⟨c1,c2⟩,c3⟩,c4⟩,c5⟩:=hok
   obtain⟨hlen,hat⟩:=KE _ _ _ hci
   obtain⟨hnl,hnum⟩:=Fa (masks ops.toList) (ord.zip insts) [] 0
   have hzl:(ord.zip insts).length=ord.length:=by rw [List.length_zip];omega
   generalize hl:numbered (masks ops.toList) (ord.zip insts) [] 0=l at *
   have hz:∀p i x,ord[p]?=some i→insts[p]?=some x→(ord.zip insts)[p]?=some (i,x):=fun p i x h1 h2=>by rw [aw9];exact⟨h1,h2⟩
   have hX:∀p i,ord[p]?=some i→∃x o,insts[p]?=some x∧ops[i]?=some o∧JL P slots (gK ops ord p) ops i=some (x,o.dst)∧(l.getD p default).2=x∧l[p]?=some (l.getD p default):=by
    intro p i hp
    obtain⟨x,o,h1,h2,h3⟩:=hat p i hp
    obtain⟨c,h4,_⟩:=hnum p i x (hz p i x hp h1)
    refine⟨x,o,h1,h2,by simpa using h3,by rw [avF,h4];rfl,by rw [avF,h4];rfl⟩
   have hlt:∀i∈ord,i<ops.size:=fun i hi=>Eq.mp avM (awi.1 c2 i hi)
   have hchk:∀p i x,ord[p]?=some i→insts[p]?=some x→um (masks ops.toList) ops i x ((ord.zip insts).take p).reverse=true:=fun p i x h1 h2=>by
    have:=Gr c5 p (i,x) (hz p i x h1 h2)
    simpa using this
   have hbef:∀p q j,q<p→p≤ord.length→ord[q]?=some j→∃x,(j,x)∈((ord.zip insts).take p).reverse∧insts[q]?=some x:=fun p q j hq hp hj=>by
    obtain⟨x,_,h1,_⟩:=hX q j hj
    refine⟨x,axY.2 ?_,h1⟩
    refine avG (i:=q) ?_
    rw [awJ,if_pos hq];exact hz q j x hj h1
   have hopd:∀p i,p<ord.length→ord[p]?=some i→∀y,ND (masks ops.toList) i ((ord.zip insts).take p).reverse y=true→KF ops ord (fun p=>l.getD p default) p i y:=by
    intro p i hp hi y hy
    cases y with
    | con c=>trivial
    | loc k=>
     simp only [ND] at hy
     split at hy
     ·rename_i z hz'
      have hk:k<p:=by
       have:=(S9.1 hz').1
       simp at this;omega
      rw [Di _ _ _ (by omega) hk] at hz'
      obtain⟨h1,_⟩:=aw9.1 hz'
      exact⟨z.1,hk,h1,kW ops i z.1 hy⟩
     ·cases hy
    | slot j=>
     intro q hq e
     obtain⟨x,hm,hx⟩:=hbef p q (ord[q]'(by omega)) hq (by omega) (U1 (by omega))
     obtain⟨x',o',h1,_,_,h2,_⟩:=hX q (ord[q]'(by omega)) (U1 (by omega))
     rw [hx] at h1;cases h1
     have:=awi.1 hy _ hm
     rw [h2] at e
     simp [e] at this
   refine⟨ord,fun p=>l.getD p default,⟨sQ c1,fun i hi=>?_,hlt,fun p i hp=>?_,fun p hp=>?_,fun p i hp hE q j hq hj=>?_,fun p i o hp ho e he hb=>?_,fun i j oi oj t hi hj h1 h2=>?_,fun i o t ho ht q oq hq hne hqt=>?_,fun p i hp y hy=>?_,
    fun p i y wt hp hg=>?_,fun p i o hp ho=>?_,fun p q o o' hpq hq ho ho'=>?_,hin,hgs,hls⟩,by rw [hnl,hzl],fun p x h=>by simp [avF,h]⟩
   ·have:=awi.1 c3 i (awD.2 hi)
    simpa using this
   ·obtain⟨x,o,h1,h2,h3,h4,_⟩:=hX p i hp
    obtain⟨o',g1,g2,g3,g4,g5⟩:=qX h3
    rw [h2] at g1;cases g1
    exact⟨o,h2,by show (l.getD p default).2.op=_;rw [h4];exact g3,by show (l.getD p default).2.dst=_;rw [h4];exact g4,by show lM _ _ _ (l.getD p default).2.guard;rw [h4];exact g5⟩
   ·obtain⟨x,o,_,_,_,_,h5⟩:=hX p (ord[p]) (U1 hp)
    exact hst p _ h5
   ·obtain⟨x,o,h1,h2,h3,h4,_⟩:=hX p i hp
    have hE:isE (l.getD p default).2=true:=hE
    rw [h4] at hE
    have hc:=hchk p i x hp h1
    simp only [um,avv] at hc
    have hc:=hc.1.1.1
    unfold isE at hE
    split at hE
    ·rename_i eo heo
     rw [heo] at hc
     obtain⟨x',hm,_⟩:=hbef p q j hq (by have:=(S9.1 hp).1;omega) hj
     exact kW ops i j (awi.1 hc _ hm)
    ·cases hE
   ·obtain⟨x,o',h1,h2,h3,h4,_⟩:=hX p i hp
    have hc:=hchk p i x hp h1
    simp only [um,avv] at hc
    have hc:=hc.1.1.2
    rw [ho] at hc
    simp only [avv] at hc
    have:=awi.1 hc.1 e (by simpa using he)
    rw [hb] at this
    simp only [axM,aw5] at this
    obtain⟨y,hy,hye⟩:=List.any_eq_true.1 this
    obtain⟨q,hq⟩:=avU (axY.1 hy)
    rw [awJ] at hq
    split at hq
    ·rename_i hqp
     obtain⟨g1,_⟩:=aw9.1 hq
     exact⟨q,hqp,by rw [g1];simpa using hye⟩
    ·cases hq
   ·exact lU (sQ c4) (by simpa using hi) (by simpa using hj) h1 h2
   ·obtain⟨p,hp⟩:=avU (show i∈ord from by have:=awi.1 c3 i (awD.2 (avx.1 ho).1);simpa using this)
    obtain⟨x,o',h1,h2,h3,h4,_⟩:=hX p i hp
    have hc:=hchk p i x hp h1
    simp only [um,avv] at hc
    have hc:=hc.1.1.2
    rw [ho] at hc
    simp only [avv] at hc
    have:=awi.1 (awi.1 hc.2 t ht) q (awD.2 (avx.1 hq).1)
    rw [hq] at this
    simp only [hqt,bne_self_eq_false,Bool.or_false,awO,beq_iff_eq] at this
    rcases this with (h | h) | h
    ·exact absurd h hne
    ·exact .inl (kW ops i q h)
    ·exact .inr (kW ops q i h)
   ·obtain⟨x,o',h1,h2,h3,h4,_⟩:=hX p i hp
    have hc:=hchk p i x hp h1
    simp only [um,avv] at hc
    have hy:y∈Jv (l.getD p default).2.op:=hy
    rw [h4] at hy
    exact hopd p i (S9.1 hp).1 hp y (awi.1 hc.1.2 y hy)
   ·obtain⟨x,o',h1,h2,h3,h4,_⟩:=hX p i hp
    have hc:=hchk p i x hp h1
    simp only [um,avv] at hc
    have hg:(l.getD p default).2.guard=some (y,wt):=hg
    rw [h4] at hg
    have hc:=hc.2
    rw [hg] at hc
    exact hopd p i (S9.1 hp).1 hp y hc
   ·obtain⟨x,o',h1,h2,h3,h4,h5⟩:=hX p i hp
    obtain⟨c,g1,g2,_⟩:=hnum p i x (hz p i x hp h1)
    have ho:(l.getD p default).2.op=.r o:=ho
    rw [h4] at ho
    have hc:(l.getD p default).1=c:=by rw [avF,g1];rfl
    show (l.getD p default).1=_
    rw [hc,g2 (by simp [isR,ho]),awo,Sw hlen (fun p x hp'=>?_) p (axx (S9.1 hp).1)]
    have hpl:p<ord.length:=by have:=(S9.1 hp').1;omega
    obtain⟨x',_,g3,_,_,g4,_⟩:=hX p (ord[p]) (U1 hpl)
    rw [hp'] at g3;cases g3;exact g4
   ·have hp:p<ord.length:=by omega
    obtain⟨x,o1,h1,h2,h3,h4,h5⟩:=hX p (ord[p]) (U1 hp)
    obtain⟨y,o2,k1,k2,k3,k4,k5⟩:=hX q (ord[q]) (U1 hq)
    obtain⟨c,g1,_,g2⟩:=hnum p _ x (hz p _ x (U1 hp) h1)
    obtain⟨c',g3,_,g4⟩:=hnum q _ y (hz q _ y (U1 hq) k1)
    have ho:(l.getD p default).2.op=.a o:=ho
    have ho':(l.getD q default).2.op=.a o':=ho'
    rw [h4] at ho;rw [k4] at ho'
    show (l.getD p default).1<(l.getD q default).1
    rw [show (l.getD p default).1=c from by rw [avF,g1];rfl,show (l.getD q default).1=c' from by rw [avF,g3];rfl,g2 (by simp [isR,ho]),g4 (by simp [isR,ho'])]
    have hzp:(ord.zip insts)[p]'(by rw [hzl];exact hp)=(ord[p],x):=by
     have:=hz p _ x (U1 hp) h1
     rw [U1 (by rw [hzl];exact hp)] at this
     exact avA this
    have:=xX (fun y:Nat×Inst=>isA y.2) (ord.zip insts) hpq (by rw [hzl];exact hp) (by rw [hzp];simp [isA,ho])
    omega
  ·cases hcl
def Bb (n:Nat)(listed:Array Bool):Nat:=((List.range n).filter fun i=>!listed.getD i false).length
theorem Dj {listed:Array Bool}{n i:Nat}(hn:listed.size=n)(hi:i<n)(hun:listed.getD i false=false):Bb n (listed.setIfInBounds i true)+1=Bb n listed:=by
 unfold Bb
 have key:∀l:List Nat,l.Nodup→(l.filter fun j=>!(listed.setIfInBounds i true).getD j false).length+(if i∈l then 1 else 0)=(l.filter fun j=>!listed.getD j false).length:=by
  intro l
  induction l with
  | nil=>intro _;simp
  | cons x l ih=>
   intro h
   obtain⟨h1,h2⟩:=axw.1 h
   have:=ih h2
   by_cases hx:x=i
   ·subst hx
    rw [if_neg h1] at this
    rw [if_pos (by simp),axl (by rw [iY _ _ _ (by omega),if_pos rfl];simp),axk (by rw [hun];rfl),awp]
    omega
   ·have e:(listed.setIfInBounds i true).getD x false=listed.getD x false:=by rw [iY _ _ _ (by omega),if_neg hx]
    have hmem:(i∈x::l)↔i∈l:=avL.trans ⟨fun h=>h.resolve_left (fun e=>hx e.symm),.inr⟩
    simp only [hmem]
    cases hl:listed.getD x false with
    | true=>rw [axl (by rw [e,hl];simp),axl (by rw [hl];simp)];exact this
    | false=>rw [axk (by rw [e,hl];rfl),axk (by rw [hl];rfl),awp,awp];omega
 have:=key (List.range n) List.nodup_range
 rw [if_pos (awD.2 hi)] at this
 exact this
theorem Oh {b:Nat}{ord:List Nat}{X:Nat→Nat×Inst}{S:Nat→DS}{listed:Array Bool}(F:Fixed P slots nt cf b ops ord X S)(hall:∀p,p<ord.length→Lp ord listed p=true):∀p,p≤ord.length→Gv ord X S listed p=(S p).env:=by
 intro p
 induction p with
 | zero=>intro _;rfl
 | succ p ih=>
  intro hp
  obtain⟨_,h2⟩:=F.ls (p:=p) (by omega)
  rw [h2,← ih (by omega)]
  show trD (X p).2.dst (vm ord S listed p) _=_
  simp [vm,hall p (by omega)]
theorem bM.Sy {ι:Inj}{n:Nm}{env:T j5}{A B:Array Value}(h:bM ι n slots env A)(hs:A.size=B.size)(he:∀t,A.getD t undef=B.getD t undef):bM ι n slots env B:=
 ⟨h.ok,h.small,fun t j ht=>by
  obtain⟨h1,v,h2,h3,h4⟩:=h.val t j ht
  exact⟨by omega,v,h2,h3,by rw [← he];exact h4⟩⟩
theorem kX (hmix:P.follows .mixedOrders=true)(hcf:xU P G cf)(slots:List Nat)(nt:Nat)(r:Option Nat):jD P G slots nt cf r:=by
 intro id ops n l hcl hin Q env m ι w a outs hm hen hnt hv hQ hQp
 obtain⟨S,hS0,hch⟩:=Iw (cf:=cf) (b:=m.next) l ⟨[],env,reserve n m,[reserve n m]⟩ outs hv
 have hss:∀p x,l[p]?=some x→KA cf m.next x (S p) (S (p+1)):=by
  rcases hch with⟨h,_⟩ | ⟨N,Dd,y,m',h,_⟩
  ·exact fun p x hp=>.inl (h p x hp)
  ·intro p x hp
   rcases h.step p x hp with⟨_,h⟩ | ⟨_,_,h,_⟩
   ·exact .inl h
   ·exact .inr h
 obtain⟨ord,X,F,hll,hXl⟩:=Og (cf:=cf) (b:=m.next) (S:=S) hcl hin (by rw [hS0]) (by rw [hS0]) hss
 have hget0:∀p,p<ord.length→∃x,l[p]?=some x∧X p=x:=fun p hp=>⟨l[p]'(by omega),U1 (by omega),hXl p _ (U1 (by omega))⟩
 refine wpIn_region_any hmix ?_
 have hb:m.lim≤m.next:=hm.limn
 have hen0:bM ι (m.nm ι) slots (S 0).env a.tmps:=by rw [hS0];exact hen
 have hst0:Step P G ι m w ι (reserve n m) {w with drawn:=w.drawn+1}:=(Step.drew hm _).trans (uM n (Step.drew hm (w.drawn+1)).rm)
 have hget:∀i,(Array.replicate ops.size false).getD i false=false:=fun i=>by
  rw [avE,axc];split<;>rfl
 have hL0:∀p,Lp ord (Array.replicate ops.size false) p=false:=fun p=>by
  unfold Lp
  split
  ·exact hget _
  ·rfl
 rcases hch with⟨hlv,hout⟩ | ⟨N,Dd,y,m',hPan,hout⟩
 ·have hlive:∀p,p<ord.length→DStep cf m.next (X p) (S p) (S (p+1)):=fun p hp=>by
   obtain⟨x,hx1,rfl⟩:=hget0 p hp
   exact hlv p _ hx1
  have main:∀(fuel:Nat) (listed:Array Bool) (a':Act) (w':World) (ι':Inj) (q:Nat),rZ P G m.next ops ord X S ι m w a listed a' w' ι' q→Bb ops.size listed=fuel→
    wpAnyIn (FR r) 0 P .any ops Q fuel listed a' w':=by
   intro fuel
   induction fuel with
   | zero=>
    intro listed a' w' ι' q D hleft
    have hall:∀i,i<ops.size→listed.getD i false=true:=fun i hi=>by
     cases hl:listed.getD i false with
     | true=>rfl
     | false=>
      have:i∈(List.range ops.size).filter fun i=>!listed.getD i false:=awY.2 ⟨awD.2 hi,by rw [hl];rfl⟩
      rw [avW.1 hleft] at this
      cases this
    have hL:∀p,p<ord.length→Lp ord listed p=true:=fun p hp=>by
     rw [nH (U1 hp)];exact hall _ (F.lt _ (awj hp))
    refine⟨?_,?_⟩
    ·unfold Region.ready
     refine axr.2 fun i hi=>?_
     have hi:=awD.1 hi
     have h1:listed.getD i true=true:=by
      have:=hall i hi
      rw [avE,avX (by rw [D.len];exact hi)] at this ⊢
      exact this
     simp [h1]
    ·have hq:=D.hq
     have hfin:=F.lay_all (q:=q) (L:=Lp ord listed) (ord.length-q) (by omega) fun k hk=>⟨hL _ (by omega),by
      cases he:isE (X (q+k)).2 with
      | false=>rfl
      | true=>have:=D.high (q+k) (by omega) he;rw [hL _ (by omega)] at this;cases this⟩
     rw [show q+(ord.length-q)=ord.length from by omega] at hfin
     have hst:=D.lay F hb (ord.length-q) (by omega)
     have s:=D.st F hb hen0 hnt (ord.length-q) (by omega) ord.length (by omega)
     rw [hfin] at hst s
     have henv:=s.env
     rw [Oh F hL ord.length (D5 _)] at henv
     refine hQ ⟨(S ord.length).env,(S ord.length).m,none,[]⟩ (by rw [hout,← hll];exact W9.2 rfl) rfl rfl ι' w' a' hst (henv.Sy (by rw [lT,D.sz]) fun t=>?_) D.defs D.sz
     by_cases hw:∃(i:Nat) (o:Oper),ops[i]?=some o∧o.dst=some t
     ·obtain⟨i,o,ho,ht⟩:=hw
      obtain⟨p,hp⟩:=avU (F.all i (avx.1 ho).1)
      have hpl:=(S9.1 hp).1
      rw [D.tw p i o t hp (hall i (avx.1 ho).1) ho ht,AZ F hnt hp ho ht ord.length hpl]
      simp [vm,hL p hpl]
     ·rw [D.tn t fun i o _ ho ht=>hw ⟨i,o,ho,ht⟩,rz ord.length fun r i o _ _ ho ht=>hw ⟨i,o,ho,ht⟩]
   | succ fuel ih=>
    intro listed a' w' ι' q D hleft
    refine⟨fun hnil=>?_,fun i hi=>?_⟩
    ·
     exfalso
     have hex:∃p,p<ord.length∧Lp ord listed p=false:=by
      have:((List.range ops.size).filter fun i=>!listed.getD i false)≠[]:=fun e=>by unfold Bb at hleft;rw [e] at hleft;cases hleft
      obtain⟨i,hi⟩:=axT _ this
      obtain⟨h1,h2⟩:=awY.1 hi
      obtain⟨p,hp⟩:=avU (F.all i (awD.1 h1))
      exact⟨p,(S9.1 hp).1,by rw [nH hp];simpa using h2⟩
     have hmin:∀N,(∃p,p<N∧p<ord.length∧Lp ord listed p=false)→∃p,p<ord.length∧Lp ord listed p=false∧∀q,q<p→Lp ord listed q=true:=by
      intro N
      induction N with
      | zero=>rintro⟨p,h,_⟩;omega
      | succ N ihN=>
       rintro⟨p,h1,h2,h3⟩
       by_cases hx:∃p,p<N∧p<ord.length∧Lp ord listed p=false
       ·exact ihN hx
       ·refine⟨p,h2,h3,fun q hq=>?_⟩
        cases hl:Lp ord listed q with
        | true=>rfl
        | false=>exact absurd ⟨q,by omega,by omega,hl⟩ hx
     obtain⟨p0,hp0,hp1⟩:=hex
     obtain⟨p,h1,h2,h3⟩:=hmin (p0+1) ⟨p0,by omega,hp0,hp1⟩
     have hp:=U1 h1
     have hmem:ord[p]∈Region.ready .any ops listed:=by
      obtain⟨o,ho,_⟩:=F.inst p _ hp
      refine mem_ready.2 ⟨?_,o,ho,fun e he hbnd=>?_⟩
      ·rw [nH hp] at h2
       have hlt:ord[p]<listed.size:=by rw [D.len];exact F.lt _ (awj h1)
       rw [avE,avX hlt] at h2 ⊢
       exact h2
      ·obtain⟨q',hq',hq2⟩:=F.edges p _ o hp ho e he hbnd
       have:=h3 q' hq'
       rw [nH hq2] at this;exact this
     rw [hnil] at hmem;cases hmem
    ·obtain⟨hun,o,ho,hr⟩:=mem_ready.1 hi
     have hlt:i<listed.size:=by rw [D.len];exact (avx.1 ho).1
     have hun:listed.getD i false=false:=by
      rw [avE,avX hlt] at hun ⊢
      exact hun
     refine rZ.op hcf F hb hen0 hnt D ho hun hr (fun p hp=>hlive p (S9.1 hp).1) fun a2 w2 ι2 q2 D2=>?_
     refine ih _ a2 w2 ι2 q2 D2 ?_
     have:=Dj D.len (by rw [← D.len];exact hlt) hun
     omega
  refine main _ _ a _ ι 0 ⟨axp _,.inl rfl,fun p hp=>by omega,fun p _ _=>hL0 p,by rw [hS0];exact hst0,(fun d i blk h=>by rw [hL0] at h;cases h),(fun d d' i i' blk blk' _ h=>by rw [hL0] at h;cases h),
   (fun d h=>by rw [hL0] at h;cases h),(fun p hp=>by omega),(fun p i o t _ h=>by rw [hget] at h;cases h),fun t _=>rfl,rfl,rfl,(fun i o h=>by rw [hget] at h;cases h),by simp⟩ ?_
  unfold Bb
  rw [axF.2 (fun i _=>by rw [hget];rfl),axQ]
 ·obtain⟨xN,eoN,hlN,hoN,hgN⟩:=hPan.at_
  have hNlt:N<ord.length:=by have:=(S9.1 hlN).1;omega
  obtain⟨iN,hpN⟩:∃i,ord[N]?=some i:=⟨_,U1 hNlt⟩
  have hiN:iN<ops.size:=F.lt _ (avG hpN)
  have hXN:=hXl N xN hlN
  have hxN:(X N).2.op=.e eoN:=by rw [hXN];exact hoN
  have h1N:NC (X N).2.guard (trE eoN) cf (S N).ls (S N).env (S N).m=some [⟨.pan y,m'⟩]:=by rw [hXN];exact hgN
  have deadDep:∀p i,ord[p]?=some i→Dd p=true→p=N∨Dep ops i iN:=by
   intro p
   induction p using Nat.strongRecOn with
   | _ p ihp=>
    intro i hp hd
    have hpl:=(S9.1 hp).1
    obtain⟨x,hx1,hx2⟩:=hget0 p hpl
    rcases hPan.step p x hx1 with⟨h,_⟩ | ⟨hNp,_,_,hw⟩
    ·rw [hd] at h;cases h
    ·rcases hw with h | h | ⟨k,hk,q,hqp,hkq,hq⟩
     ·exact .inl h
     ·by_cases hpN':p=N
      ·exact .inl hpN'
      ·obtain⟨eo,he⟩:=h
       exact .inr (F.eff p i hp (by rw [hx2];simp [isE,he]) N iN (by omega) hpN)
     ·have hok:KF ops ord X p i (.loc k):=by
       rcases hk with hk | ⟨wt,hk⟩
       ·exact F.opd p i hp _ (by rw [hx2];exact hk)
       ·exact F.opdg p i _ wt hp (by rw [hx2];exact hk)
      obtain⟨j,hj1,hj2,hj3⟩:=hok
      have e:p-1-k=q:=by omega
      rw [e] at hj2
      rcases ihp q hqp j hj2 hq with rfl | h
      ·obtain rfl:=avA (hj2.symm.trans hpN)
       exact .inr hj3
      ·exact .inr (hj3.trans h)
  have main:∀(fuel:Nat) (listed:Array Bool) (a':Act) (w':World) (ι':Inj) (q:Nat),rZ P G m.next ops ord X S ι m w a listed a' w' ι' q→listed.getD iN false=false→Bb ops.size listed=fuel→
    wpAnyIn (FR r) 0 P .any ops Q fuel listed a' w':=by
   intro fuel
   induction fuel with
   | zero=>
    intro listed a' w' ι' q D hNl hleft
    exfalso
    have:iN∈(List.range ops.size).filter fun i=>!listed.getD i false:=awY.2 ⟨awD.2 hiN,by rw [hNl];rfl⟩
    rw [avW.1 hleft] at this
    cases this
   | succ fuel ih=>
    intro listed a' w' ι' q D hNl hleft
    refine⟨fun hnil=>?_,fun i hi=>?_⟩
    ·
     exfalso
     have hex:∃p,p<ord.length∧Lp ord listed p=false:=by
      have:((List.range ops.size).filter fun i=>!listed.getD i false)≠[]:=fun e=>by unfold Bb at hleft;rw [e] at hleft;cases hleft
      obtain⟨i,hi⟩:=axT _ this
      obtain⟨h1,h2⟩:=awY.1 hi
      obtain⟨p,hp⟩:=avU (F.all i (awD.1 h1))
      exact⟨p,(S9.1 hp).1,by rw [nH hp];simpa using h2⟩
     have hmin:∀N,(∃p,p<N∧p<ord.length∧Lp ord listed p=false)→∃p,p<ord.length∧Lp ord listed p=false∧∀q,q<p→Lp ord listed q=true:=by
      intro N
      induction N with
      | zero=>rintro⟨p,h,_⟩;omega
      | succ N ihN=>
       rintro⟨p,h1,h2,h3⟩
       by_cases hx:∃p,p<N∧p<ord.length∧Lp ord listed p=false
       ·exact ihN hx
       ·refine⟨p,h2,h3,fun q hq=>?_⟩
        cases hl:Lp ord listed q with
        | true=>rfl
        | false=>exact absurd ⟨q,by omega,by omega,hl⟩ hx
     obtain⟨p0,hp0,hp1⟩:=hex
     obtain⟨p,h1,h2,h3⟩:=hmin (p0+1) ⟨p0,by omega,hp0,hp1⟩
     have hp:=U1 h1
     have hmem:ord[p]∈Region.ready .any ops listed:=by
      obtain⟨o,ho,_⟩:=F.inst p _ hp
      refine mem_ready.2 ⟨?_,o,ho,fun e he hbnd=>?_⟩
      ·rw [nH hp] at h2
       have hlt:ord[p]<listed.size:=by rw [D.len];exact F.lt _ (awj h1)
       rw [avE,avX hlt] at h2 ⊢
       exact h2
      ·obtain⟨q',hq',hq2⟩:=F.edges p _ o hp ho e he hbnd
       have:=h3 q' hq'
       rw [nH hq2] at this;exact this
     rw [hnil] at hmem;cases hmem
    ·obtain⟨hun,o,ho,hr⟩:=mem_ready.1 hi
     have hlt:i<listed.size:=by rw [D.len];exact (avx.1 ho).1
     have hun:listed.getD i false=false:=by
      rw [avE,avX hlt] at hun ⊢
      exact hun
     by_cases hiN':i=iN
     ·subst hiN'
      refine rZ.pan hcf F hb hen0 hnt D hpN ho hun hr hxN h1N (fun p hp hpl=>?_) fun ι2 w2 hst hlt2 henv2=>?_
      ·obtain⟨x,hx1,rfl⟩:=hget0 p hpl
       exact hPan.dst p _ hp hx1
      ·exact hQp _ (by rw [hout];exact W9.2 rfl) y rfl rfl ι2 w2 a' hst hlt2 henv2 D.defs D.sz
     ·have hdep:∀j,Dep ops i j→listed.getD j false=true:=fun j hj=>hj.listed D.closed fun o' ho' e he hbnd=>by rw [ho] at ho';cases ho';exact hr e he hbnd
      refine rZ.op hcf F hb hen0 hnt D ho hun hr (fun p hp=>?_) fun a2 w2 ι2 q2 D2=>?_
      ·have hpl:=(S9.1 hp).1
       obtain⟨x,hx1,rfl⟩:=hget0 p hpl
       rcases hPan.step p _ hx1 with⟨_,h⟩ | ⟨hNp,hDd,_,_⟩
       ·exact h
       ·exfalso
        rcases deadDep p i hp hDd with rfl | h
        ·exact hiN' (avA (hp.symm.trans hpN))
        ·have:=hdep _ h
         rw [hNl] at this;cases this
      ·refine ih _ a2 w2 ι2 q2 D2 ?_ ?_
       ·rw [iY _ _ _ hlt,if_neg (axu hiN')];exact hNl
       ·have:=Dj D.len (by rw [← D.len];exact hlt) hun
        omega
  refine main _ _ a _ ι 0 ⟨axp _,.inl rfl,fun p hp=>by omega,fun p _ _=>hL0 p,by rw [hS0];exact hst0,(fun d i blk h=>by rw [hL0] at h;cases h),(fun d d' i i' blk blk' _ h=>by rw [hL0] at h;cases h),
   (fun d h=>by rw [hL0] at h;cases h),(fun p hp=>by omega),(fun p i o t _ h=>by rw [hget] at h;cases h),fun t _=>rfl,rfl,rfl,(fun i o h=>by rw [hget] at h;cases h),by simp⟩ (hget _) ?_
  unfold Bb
  rw [axF.2 (fun i _=>by rw [hget];rfl),axQ]
end
end
end Go.AM
