/- A part of an evaluator for the model, proved sound: what it answers holds of the model; it speaks of every program, no condition. -/
import Derived.Test.YteecnooaopfkeaaGreatDoorPA2
import Derived.RangeFuncLeaves
import Derived.RangeFuncRecord
import Derived.RangeFuncNested
import Derived.LoopNIn
import Derived.OrdersIn
set_option linter.all false
namespace Go.AM
open Go
noncomputable section
section
variable {P:Program}{G:Mem}{ι:K4}{m:Mem}{w:World}{slots:List Nat}{done:List (Option Nat)}{ls:List j3}{env:T j3}{a:Act}
def Aj (P:Program)(f:FuncId):Prop:=∃fn,P.funcs[f]?=some fn∧fn.body.isSome=true∧fn.name≠ "runtime.NumGoroutine"
def P8 (P:Program)(G:Mem)(ι:K4)(m:Mem)(w:World)(outs:List VM)(e:Ending)(w':World):Prop:=
 (∃v,e=.returned v∧aQ P G ι m w outs v w')∨
  ∃r∈outs,∃x ι',r.v=.mZ x∧Step P G ι m w ι' r.m w'∧x.lt (r.m.nm ι')∧e=.panicked [{v:=o8 ι' x,recovered:=false}]
def kC (P:Program)(ρ:Operand->Value)(o:Oper)(w:World)(R:Ending->World->Prop):Prop:=
 match (execOp ρ o).run P w with
 | .ok (.value v) w'=>R (.returned v) w'
 | .ok .skip w'=>R (.returned undef) w'
 | .ok (.enter f args) w'=>CallsIn Fence.wide 0 P f args w' R
 | .ok (.round l f tmps assign body) w'=>RoundIn Fence.wide 0 P l f tmps assign body w' R
 | .halt (.panic v) w'=>R (.panicked [{v,recovered:=false}]) w'
 | _=>False
theorem aj {ρ:Operand->Value}{o:Oper}{outs:List VM}(h:Does P ρ o w (aQ P G ι m w outs)):kC P ρ o w (P8 P G ι m w outs):=by
 unfold Does at h;unfold kC;generalize (execOp ρ o).run P w=res at h;cases res with
 | halt=>exact h.elim
 | ok x w'=>
  cases x with
  | value v=>exact .inl ⟨_,rfl,h⟩
  | skip=>exact .inl ⟨_,rfl,h⟩
  | enter f args=>exact aiM h λe w'' hh=>.inl hh
  | round l f tmps assign body=>exact RoundIn.mono h λe w'' hh=>.inl hh
  | _=>exact h.elim
theorem OH {ρ:Operand->Value}{o:Oper}{R:Value->World->Prop}(h:Does P ρ o w R):kC P ρ o w (λe w'=>∃v,e=.returned v∧R v w'):=by
 unfold Does at h;unfold kC;generalize (execOp ρ o).run P w=res at h;cases res with
 | halt=>exact h.elim
 | ok x w'=>
  cases x with
  | value v=>exact⟨_,rfl,h⟩
  | skip=>exact⟨_,rfl,h⟩
  | enter f args=>exact h
  | round l f tmps assign body=>exact h
  | _=>exact h.elim
structure mU (P:Program)(G:Mem)(cf:F4):Prop where
 func:∀{f:FuncId} {args:List j3} {m:Mem} {outs:List VM},cf (.func f) args m=some outs->Aj P f∧∀{ι:K4} {w:World},RM P G ι m w.heap->aS (m.nm ι) args->
  CallsIn Fence.wide 0 P f (y7 ι args).toArray w (P8 P G ι m w outs)
 yield:∀{l:Nat} {args:List j3} {m:Mem} {outs:List VM},cf (.yield l) args m=some outs->∀{ι:K4} {w:World},RM P G ι m w.heap->aS (m.nm ι) args->
  ∃L:Loop,w.heap[(ι l).b]?=some (.loop L)∧args.length=L.params.size∧
   RoundIn Fence.wide 0 P (ι l).b L.fn ((L.params.zip (y7 ι args).toArray).foldl (λt (p,v)=>t.setIfInBounds p v) L.tmps) L.assign L.body w (P8 P G ι m w outs)
 other:∀{fn:Fn} {args:List j3} {m:Mem} {outs:List VM},cf fn args m=some outs->(∃f,fn=.func f)∨∃l,fn=.yield l
theorem mV {f:FuncId}(h:Aj P f)(args:Array Value)(w:World):(callFunc f args).run P w=.ok (.enter f args) w:=by
 obtain⟨fn,h1,h2,h3⟩:=h;cases hb:fn.body with
 | none=>rw [hb] at h2;cases h2
 | some c=>simp [callFunc,h1,h3,hb]
theorem jP (ι:K4)(l r:List j3):y7 ι (l++r)=y7 ι l++y7 ι r:=by simp [bf]
theorem jg {n:Nm}{l r:List j3}(h:aS n l)(h':aS n r):aS n (l++r):=bT.2 λv hv=>(aaF.1 hv).elim (O8 h) (O8 h')
theorem JB (s:St P ι (m.nm ι) slots done ls env a.tmps){as:Array Operand}{os:List P6}(h:jr P slots done as.toList=some os):
  as.map a.eval=(y7 ι (evs (fD os) ls env)).toArray∧aS (m.nm ι) (evs (fD os) ls env):=by
 obtain⟨h1,h2⟩:=kL s h;refine⟨?_,h2⟩;rw [← h1,← aiN,aaV]
theorem OI {cf:F4}(hcf:mU P G cf)(s:St P ι (m.nm ι) slots done ls env a.tmps)(hm:RM P G ι m w.heap){c:Call}{f:FuncId}{as:List P6}(hc:c.callee=.value (.func f))
  (has:jr P slots done c.args.toList=some as) {outs:List VM} (hv:nu (.call f as) cf ls env m=some outs):
  ∀o:Oper,o.op=.call c->kC P a.eval o w (P8 P G ι m w outs):=by
 intro o ho;obtain⟨e1,e2⟩:=JB s has;have hv:cf (.func f) (evs (fD as) ls env) m=some outs:=hv;obtain⟨hf,hcall⟩:=hcf.func hv;have hrun:(execOp a.eval o).run P w=.ok (.enter f (y7 ι (evs (fD as) ls env)).toArray) w:=by simp [execOp,ho,resolve,hc,Act.eval,Deferred.ofValue,invoke,e1,mV hf]
 unfold kC;rw [hrun];exact hcall hm e2
theorem LX {cf:F4}(hcf:mU P G cf)(s:St P ι (m.nm ι) slots done ls env a.tmps)(hm:RM P G ι m w.heap){c:Call}{f:Operand}{f':P6}{as:List P6}(hc:c.callee=.value f)
  (hf':N9 P slots done f=some f') (has:jr P slots done c.args.toList=some as) {outs:List VM} (hv:nu (.callv f' as) cf ls env m=some outs):
  ∀o:Oper,o.op=.call c->kC P a.eval o w (P8 P G ι m w outs):=by
 intro o ho;obtain⟨e1,e2⟩:=JB s has;obtain⟨e3,e4⟩:=A8 s hf';obtain⟨fn,x,y,h1,h⟩:=Jl hv;have h1:F9 f' ls env=.func fn x y:=h1;rw [h1] at e3 e4;obtain⟨_,hx,hy⟩:=e4;cases fn with
 | func g=>
  have h:cf (.func g) (aX x (aX (evs (fD as) ls env) y)) m=some outs:=h;rw [V5,V5] at h;obtain⟨hf,hcall⟩:=hcf.func h;have hrun:(execOp a.eval o).run P w=.ok (.enter g (y7 ι (x++(evs (fD as) ls env++y))).toArray) w:=by simp [execOp,ho,resolve,hc,e3,o8,je,Deferred.ofValue,invoke,e1,mV hf,jP]
  unfold kC;rw [hrun];exact hcall hm (jg hx (jg e2 hy))
 | yield l=>
  have h:cf (.yield l) (aX x (evs (fD as) ls env)) m=some outs:=h;rw [V5] at h;obtain⟨L,g1,g2,g3⟩:=hcf.yield h hm (jg hx e2);have hrun:(execOp a.eval o).run P w=.ok (.round (ι l).b L.fn ((L.params.zip (y7 ι (x++evs (fD as) ls env)).toArray).foldl (λt (p,v)=>t.setIfInBounds p v) L.tmps) L.assign L.body) w:=by have hy:=run_yield (P:=P) (args:=(y7 ι (x++evs (fD as) ls env)).toArray) g1 (by simpa using g2);rw [jP,← List.append_toArray] at hy ⊢;simp only [execOp,ho,resolve,hc,e3,o8,je,Deferred.ofValue,invoke,e1,Y1,aat,J8,hy]
  unfold kC;rw [hrun];exact g3
 | method=>cases h
 | methodOf=>cases h
 | via=>cases h
theorem LY (s:St P ι (m.nm ι) slots done ls env a.tmps)(hm:RM P G ι m w.heap){x:Operand}{x':P6}(hx:N9 P slots done x=some x'){cf:F4}{outs:List VM}(hv:nu (.panic x') cf ls env m=some outs):
  ∀o:Oper,o.op=.panic x->kC P a.eval o w (P8 P G ι m w outs):=by
 intro o ho;obtain⟨e1,e2⟩:=A8 s hx;have hv:Ui (F9 x' ls env) m=some outs:=hv;generalize F9 x' ls env=v at *;cases v with
 | iface t y=>
  have hv:some [(⟨.mZ (.iface t y),m⟩:VM)]=some outs:=hv;cases hv;have hrun:(execOp a.eval o).run P w=.halt (.panic (o8 ι (.iface t y))) w:=by simp [execOp,ho,e1,o8,Instr.panic,goPanic]
  unfold kC;rw [hrun];exact .inr ⟨_,J3.2 rfl,_,ι,rfl,Step.refl hm,e2,rfl⟩
 | _=>cases hv
theorem Ak {cf:F4}(hcf:mU P G cf)(s:St P ι (m.nm ι) slots done ls env a.tmps)(hm:RM P G ι m w.heap){op:Op}{eo:TI}(h:fO P slots done op=some (.e eo)){outs:List VM}(hv:nu eo cf ls env m=some outs):
  ∀o:Oper,o.op=op->kC P a.eval o w (P8 P G ι m w outs):=by
 cases yK h with
 | store h1 h2 h3=>exact λo ho=>aj (LJ s hm h1 h2 h3 hv o ho)
 | mapUpdate h1 h2 h3 h4 h5=>exact λo ho=>aj (yS s hm h1 h2 h3 h4 h5 hv o (.inl ho))
 | insert h1 h2 h3 h4 h5=>exact λo ho=>aj (yS s hm h1 h2 h3 h4 h5 hv o (.inr ho))
 | range h1 h2=>exact λo ho=>aj (LP s hm h1 h2 hv o ho)
 | next h1=>exact λo ho=>aj (OB s hm h1 hv o ho)
 | app h1 h2 h3 h4 h5 h6 h7 h8 h9 h10=>exact λo ho=>aj (GQ s hm h2 h3 h4 h5 h1 h6 h7 h8 h9 h10 (by rw [← XF];exact hv) o ho)
 | copy h1 h2 h3 h4 h5 h6 h7=>exact λo ho=>aj (OC s hm h1 h2 h3 h4 h5 h6 h7 hv o ho)
 | clear h1 h2 h3 h4 h5 h6=>exact λo ho=>aj (LQ s hm h1 h2 h3 h4 h5 h6 hv o ho)
 | call h1 h2 h3 h4 h5=>exact OI hcf s hm h1 h5 hv
 | callv h1 h2 h3=>exact LX hcf s hm h1 h2 h3 hv
 | panic h1=>exact LY s hm h1 hv
 | rangeS h1 h2=>exact λo ho=>aj (JA s hm h1 h2 hv o ho)
 | nextS h1=>exact λo ho=>aj (LW s hm h1 hv o ho)
 | appB h1 h2 h3 h4 h5 h6 h7 h8=>exact λo ho=>aj (OD s hm h2 h3 h4 h5 h1 h6 h7 h8 hv o ho)
 | ustr h1 h2 h3 h4 h5 h6 h7=>exact λo ho=>aj (OG s hm h1 h2 h3 h4 h5 h6 h7 hv o ho)
 | defer=>cases hv
 | recover=>cases hv
end
section
variable {f:P6->P6}{ls ls':List j3}{env env':T j3}
def Sm (f:P6->P6)(ls:List j3)(env:T j3)(ls':List j3)(env':T j3)(x:P6):Prop:=F9 (f x) ls' env'=F9 x ls env
theorem qG {l:List P6}(h:∀x∈l,Sm f ls env ls' env' x):evs (fD (l.map f)) ls' env'=evs (fD l) ls env:=by rw [evs_eq',evs_eq'];rw [agy];exact aiy h
where
 evs_eq' {l:List P6} {ls:List j3} {env:T j3}:evs (fD l) ls env=l.map λx=>F9 x ls env:=by
  induction l with
  | nil=>rfl
  | cons x l ih=>show F9 x ls env::evs (fD l) ls env=_;rw [ih];rfl
theorem GR {ps:List (Nat×Nat×P6)}(h:∀x∈ps.map (·.2.2),Sm f ls env ls' env' x)(cs:List j3):
  lay (zU (ps.map λp=>(p.1,p.2.1,f p.2.2))) ls' env' cs=lay (zU ps) ls env cs:=by
 induction ps generalizing cs with
 | nil=>rfl
 | cons p ps ih=>
  have h0:F9 (f p.2.2) ls' env'=F9 p.2.2 ls env:=h _ (by simp);show bi (Nat.beq (len' (F9 (f p.2.2) ls' env').cells) p.2.1) (bi (Nat.ble (Nat.add p.1 p.2.1) (len' cs)) (lay (zU (ps.map λp=>(p.1,p.2.1,f p.2.2))) ls' env' (lI p.1 (F9 (f p.2.2) ls' env').cells cs)) none) none =
   bi (Nat.beq (len' (F9 p.2.2 ls env).cells) p.2.1) (bi (Nat.ble (Nat.add p.1 p.2.1) (len' cs)) (lay (zU ps) ls env (lI p.1 (F9 p.2.2 ls env).cells cs)) none) none
  rw [h0,ih (λx hx=>h x (Z9 _ hx))]
theorem iy {β:Type}{o:Option P6}(h:∀x∈o.toList,Sm f ls env ls' env' x)(d:Nat)(k:Nat->Option β):eX (kG (o.map f)) d ls' env' k=eX (kG o) d ls env k:=by
 cases o with
 | none=>rfl
 | some x=>have h0:F9 (f x) ls' env'=F9 x ls env:=h x (by simp);show gZ (F9 (f x) ls' env') k=gZ (F9 x ls env) k;rw [h0]
theorem GU {o:TH}(h:∀x∈gG o,Sm f ls env ls' env' x):nk (jY f o) ls' env'=nk o ls env:=by
 have e:∀x∈gG o,F9 (f x) ls' env'=F9 x ls env:=h;cases o with
 | build z ps=>show ob (lay (zU (ps.map λp=>(p.1,p.2.1,f p.2.2))) ls' env' z) _=ob (lay (zU ps) ls env z) _;rw [GR h]
 | mkFunc fn a b=>show some (j3.func fn (evs (fD (a.map f)) ls' env') (evs (fD (b.map f)) ls' env'))=some (j3.func fn (evs (fD a) ls env) (evs (fD b) ls env));rw [qG λx hx=>h x (ad6 _ hx),qG λx hx=>h x (aef _ hx)]
 | slStr x lo hi=>have h0:=e x (by simp [gG]);have h1:∀y∈lo.toList,Sm f ls env ls' env' y:=λy hy=>h y (Z9 _ (ad6 _ hy));have h2:∀y∈hi.toList,Sm f ls env ls' env' y:=λy hy=>h y (Z9 _ (aef _ hy));simp only [jY,nk,jc,h0,iy h1,iy h2]
 | slArr es n x lo hi=>have h0:=e x (by simp [gG]);have h1:∀y∈lo.toList,Sm f ls env ls' env' y:=λy hy=>h y (Z9 _ (ad6 _ hy));have h2:∀y∈hi.toList,Sm f ls env ls' env' y:=λy hy=>h y (Z9 _ (aef _ hy));simp only [jY,nk,Ua,h0,iy h1,iy h2]
 | mm mx x xs=>show KY mx (evs (fD (xs.map f)) ls' env') (F9 (f x) ls' env')=KY mx (evs (fD xs) ls env) (F9 x ls env);rw [qG λx hx=>h x (Z9 _ hx),e x (by simp [gG])]
 | ib op x y=>have h0:=e x (by simp [gG]);have h1:=e y (by simp [gG]);cases op<;>simp only [jY,nk,V9,aaT,aaU,h0,h1]
 | eq neg k x y=>have h0:=e x (by simp [gG]);have h1:=e y (by simp [gG]);cases neg<;>simp only [jY,nk,pEq,Xq,h0,h1]
 | fld off size x=>have h0:=e x (by simp [gG]);cases size<;>simp only [jY,nk,Ub,Uc,h0]
 | iArr es n size x i=>have h0:=e x (by simp [gG]);have h1:=e i (by simp [gG]);cases size<;>simp only [jY,nk,CZ,Ud,h0,h1]
 | pick a b c=>simp only [jY,nk,dZ,e a (by simp [gG]),e b (by simp [gG]),e c (by simp [gG])]
 | iAddr es x i=>simp only [jY,nk,aY,e x (by simp [gG]),e i (by simp [gG])]
 | iAddrArr es n x i=>simp only [jY,nk,zT,e x (by simp [gG]),e i (by simp [gG])]
 | iStr x i=>simp only [jY,nk,sG,e x (by simp [gG]),e i (by simp [gG])]
 | mov x=>simp only [jY,nk,Q5,e x (by simp [gG])]
 | nilCheck x=>simp only [jY,nk,cB,e x (by simp [gG])]
 | not x=>simp only [jY,nk,KX,e x (by simp [gG])]
 | neg x=>simp only [jY,nk,aaX,e x (by simp [gG])]
 | inv x=>simp only [jY,nk,aaW,e x (by simp [gG])]
 | conv k x=>simp only [jY,nk,PW,e x (by simp [gG])]
 | mkIface t x=>simp only [jY,nk,Jb,e x (by simp [gG])]
 | fAddr o x=>simp only [jY,nk,G9,e x (by simp [gG])]
 | ext x i=>simp only [jY,nk,pExt,e x (by simp [gG])]
 | len x=>simp only [jY,nk,Da,e x (by simp [gG])]
 | lenS x=>simp only [jY,nk,Db,e x (by simp [gG])]
 | cap x=>simp only [jY,nk,aaY,e x (by simp [gG])]
 | assert t z ok x=>simp only [jY,nk,qY,e x (by simp [gG])]
theorem GV {o:Oc}(h:∀x∈ay o,Sm f ls env ls' env' x)(m:Mem):ru (zW f o) ls' env' m=ru o ls env m:=by
 have e:∀x∈ay o,F9 (f x) ls' env'=F9 x ls env:=h;cases o with
 | load size x=>cases size<;>simp only [zW,ru,qg,aZ,e x (by simp [ay])]
 | look k z ok x y=>simp only [zW,ru,ZT,e x (by simp [ay]),e y (by simp [ay])]
 | lenM x=>simp only [zW,ru,ZU,e x (by simp [ay])]
 | bytesStr x=>simp only [zW,ru,fK,e x (by simp [ay])]
 | entry x=>simp only [zW,ru,qZ,e x (by simp [ay])]
 | slData x=>simp only [zW,ru,PY,e x (by simp [ay])]
 | toUns x=>simp only [zW,ru,wX,e x (by simp [ay])]
 | fromUns l x=>simp only [zW,ru,nK,e x (by simp [ay])]
theorem GX {o:Rh}(h:∀x∈opsL o,Sm f ls env ls' env' x)(nid:Nat):wH (Jg f o) ls' env' nid=wH o ls env nid:=by
 have e:∀x∈opsL o,F9 (f x) ls' env'=F9 x ls env:=h;cases o with
 | alloc z=>rfl
 | mkMap=>rfl
 | box x=>simp only [Jg,wH,Ri,e x (by simp [opsL])]
 | allocT t z=>rfl
 | boxT t k x=>simp only [Jg,wH,ZV,e x (by simp [opsL])]
 | buildSlice es len z ps=>show ob (lay (zU (ps.map λp=>(p.1,p.2.1,f p.2.2))) ls' env' (U0 z len)) _=ob (lay (zU ps) ls env (U0 z len)) _;rw [GR h]
 | mkSlice es b z l c=>simp only [Jg,wH,KZ,e l (by simp [opsL]),e c (by simp [opsL])]
 | strBytes x=>simp only [Jg,wH,Gs,e x (by simp [opsL])]
 | sl es x lo hi=>
  have h0:=e x (by simp [opsL]);have h1:∀y∈lo.toList,Sm f ls env ls' env' y:=λy hy=>h y (Z9 _ (ad6 _ hy));cases hi with
  | none=>show eX (kG (lo.map f)) 0 ls' env' (λl=>L9 nid es (F9 (f x) ls' env') l none)=eX (kG lo) 0 ls env (λl=>L9 nid es (F9 x ls env) l none);rw [iy h1,h0]
  | some y=>have h2:=e y (by simp [opsL]);show eX (kG (lo.map f)) 0 ls' env' (λl=>gZ (F9 (f y) ls' env') λh=>L9 nid es (F9 (f x) ls' env') l (some h))=eX (kG lo) 0 ls env (λl=>gZ (F9 y ls env) λh=>L9 nid es (F9 x ls env) l (some h));rw [iy h1,h0,h2]
theorem GY {o:TI}(h:∀x∈opsE o,Sm f ls env ls' env' x)(cf:F4)(m:Mem):nu (sU f o) cf ls' env' m=nu o cf ls env m:=by
 have e:∀x∈opsE o,F9 (f x) ls' env'=F9 x ls env:=h;cases o with
 | store s a x=>simp only [sU,nu,I6,e a (by simp [opsE]),e x (by simp [opsE])]
 | storeAp s a x b=>simp only [sU,nu,tJ,I6,e a (by simp [opsE]),e x (by simp [opsE]),e b (by simp [opsE])]
 | mapSet k a b c=>simp only [sU,nu,P9,e a (by simp [opsE]),e b (by simp [opsE]),e c (by simp [opsE])]
 | range x=>simp only [sU,nu,nM,e x (by simp [opsE])]
 | next x=>simp only [sU,nu,AV,e x (by simp [opsE])]
 | app es zs z b s x=>cases zs<;>simp only [sU,nu,qh,ZX,e s (by simp [opsE]),e x (by simp [opsE])]
 | copy es d s=>simp only [sU,nu,Uf,e d (by simp [opsE]),e s (by simp [opsE])]
 | clear z x=>simp only [sU,nu,Ug,e x (by simp [opsE])]
 | call g as=>show cf (.func g) (evs (fD (as.map f)) ls' env') m=cf (.func g) (evs (fD as) ls env) m;rw [qG (l:=as) h]
 | callv g as=>simp only [sU,nu,Jd,e g (by simp [opsE]),qG λx hx=>h x (Z9 _ hx)]
 | bad=>rfl
 | defer f as=>rfl
 | recover=>rfl
 | panic x=>simp only [sU,nu,tK,e x (by simp [opsE])]
 | rangeS x=>simp only [sU,nu,Cj,e x (by simp [opsE])]
 | nextS x=>simp only [sU,nu,Dg,e x (by simp [opsE])]
 | appB t s x=>simp only [sU,nu,Qa,qh,e s (by simp [opsE]),e x (by simp [opsE])]
 | ustr t p n=>simp only [sU,nu,ZY,e p (by simp [opsE]),e n (by simp [opsE])]
end
section
variable {P:Program}{G:Mem}{ι:K4}{n:Nm}{m:Mem}{w:World}{slots:List Nat}{done:List (Option Nat)}{ls:List j3}{env:T j3}{a:Act}
def FR (r:Option Nat):Fence:={Fence.wide with round:=r}
theorem kP:o8 ι .undef=undef:=by simp only [o8];rfl
theorem xH {α β:Type}(f:α->Option (List β))(a:α)(l:List α):Dh f (a::l)=ob (f a) λx=>ob (Dh f l) λy=>some (x++y):=rfl
theorem Ed {α β:Type}{f:α->Option (List β)}:∀{l:List α} {outs:List β},Dh f l=some outs->∀r∈l,∃os,f r=some os∧∀o∈os,o∈outs
 | [],_,_,r,hr=>by cases hr
 | a::l,outs,h,r,hr=>by rw [xH] at h;obtain⟨x,hx,h⟩:=C8 h;obtain⟨y,hy,h⟩:=C8 h;cases h;rcases Z7.1 hr with rfl | hr;exact⟨x,hx,λo ho=>ad6 _ ho⟩;obtain⟨os,h1,h2⟩:=Ed hy r hr;exact⟨os,h1,λo ho=>aef _ (h2 o ho)⟩
theorem aH {α β:Type}{x:Option (List α)}{f:α->Option (List β)}{outs:List β}(h:bnd x f=some outs):∃l,x=some l∧∀r∈l,∃os,f r=some os∧∀o∈os,o∈outs:=by
 cases x with
 | none=>cases h
 | some l=>
  refine⟨l,rfl,?_⟩;match l,h with
  | [],_=>intro r hr;cases hr
  | [a],h=>intro r hr;obtain rfl:=J3.1 hr;exact⟨outs,h,λo ho=>ho⟩
  | a::b::t,h=>exact Ed (l:=a::b::t) h
def Qj (cf:F4)(o:yw)(ls:List j3)(env:T j3)(m:Mem):bX:=match o with
 | .p o=>ob (nk o ls env) λv=>one v m
 | .r o=>ob (ru o ls env m) λv=>one v m
 | .a o=>ob (wH o ls env m.nx) λr=>one r.1 (bM m r.2)
 | .e o=>nu o cf ls env m
def evG (cf:F4)(g:Option (P6×Bool))(o:yw)(ls:List j3)(env:T j3)(m:Mem):bX:=match g with
 | none=>Qj cf o ls env m
 | some (x,w)=>bi (oP w (F9 x ls env)) (Qj cf o ls env m) (one .undef m)
theorem Al {α β γ:Type}(o:Option α)(g:α->β)(f:β->Option (List γ)):bnd (ob o λa=>some [g a]) f=ob o λa=>f (g a):=by cases o<;>rfl
theorem OJ {β γ:Type}(b:Bool)(x y:Option (List β))(f:β->Option (List γ)):bnd (bi b x y) f=bi b (bnd x f) (bnd y f):=by cases b<;>rfl
theorem UG {α β:Type}(b:Bool)(x y:Option α)(f:α->Option β):ob (bi b x y) f=bi b (ob x f) (ob y f):=by cases b<;>rfl
def wS:yw->Bool
 | .e _=>true
 | _=>false
def LZ (e:Bool)(d:Option Nat)(k:RC)(cf:F4)(ls:List j3)(env:T j3)(r:VM):Option (List EM):=
 bi e (dx r.v (λx=>some [⟨env,r.m,some x,[]⟩]) (k cf (r.v::ls) (bW d r.v env) r.m)) (k cf (r.v::ls) (bW d r.v env) r.m)
theorem UH (o:yw)(d:Option Nat)(g:Option (P6×Bool))(k:RC)(cf:F4)(ls:List j3)(env:T j3)(m:Mem):
  TJ o d g k cf ls env m=bnd (evG cf g o ls env m) (LZ (wS o) d k cf ls env):=by
 cases o with
 | p o=>
  have h:TJ (.p o) d g k cf ls env m=ob (FJ g (nk o) ls env) (λv=>k cf (v::ls) (bW d v env) m):=by cases d<;>rfl
  rw [h];cases g with
  | none=>exact (Al (nk o ls env) (λv=>(⟨v,m⟩:VM)) (λr=>k cf (r.v::ls) (bW d r.v env) r.m)).symm
  | some p=>obtain⟨x,wt⟩:=p;show ob (bi (oP wt (F9 x ls env)) (nk o ls env) (some .undef)) _=bnd (bi (oP wt (F9 x ls env)) (ob (nk o ls env) λv=>some [⟨v,m⟩]) (one .undef m)) _;rw [OJ,UG,Al];rfl
 | r o=>
  have h:TJ (.r o) d g k cf ls env m=ob (wY g (ru o) ls env m) (λv=>k cf (v::ls) (bW d v env) m):=by cases d<;>rfl
  rw [h];cases g with
  | none=>exact (Al (ru o ls env m) (λv=>(⟨v,m⟩:VM)) (λr=>k cf (r.v::ls) (bW d r.v env) r.m)).symm
  | some p=>obtain⟨x,wt⟩:=p;show ob (bi (oP wt (F9 x ls env)) (ru o ls env m) (some .undef)) _=bnd (bi (oP wt (F9 x ls env)) (ob (ru o ls env m) λv=>some [⟨v,m⟩]) (one .undef m)) _;rw [OJ,UG,Al];rfl
 | a o=>
  have h:TJ (.a o) d g k cf ls env m=ob (BQ g (wH o) ls env m.nx) (λr=>k cf (r.1::ls) (bW d r.1 env) (bM m r.2)):=by cases d<;>rfl
  rw [h];cases g with
  | none=>exact (Al (wH o ls env m.nx) (λr=>(⟨r.1,bM m r.2⟩:VM)) (λr=>k cf (r.v::ls) (bW d r.v env) r.m)).symm
  | some p=>obtain⟨x,wt⟩:=p;show ob (bi (oP wt (F9 x ls env)) (wH o ls env m.nx) (some (.undef,none))) _=bnd (bi (oP wt (F9 x ls env)) (ob (wH o ls env m.nx) λr=>some [⟨r.1,bM m r.2⟩]) (one .undef m)) _;rw [OJ,UG,Al];rfl
 | e o=>
  have h:TJ (.e o) d g k cf ls env m=bnd (Jf g (nu o) cf ls env m) (LZ true d k cf ls env):=by cases d<;>rfl
  rw [h];cases g with
  | none=>rfl
  | some p=>rfl
theorem yV {o:yw}{d:Option Nat}{g:Option (P6×Bool)}{k:RC}{cf:F4}{outs:List EM}(h:TJ o d g k cf ls env m=some outs):
  ∃l,evG cf g o ls env m=some l∧∀r∈l,∃os,LZ (wS o) d k cf ls env r=some os∧∀o∈os,o∈outs:=by
 rw [UH] at h;exact aH h
theorem Qk {β:Type}{v:j3}{p:j3->β}{q:β}(h:v.lt n):dx v p q=q:=by cases v<;>first | rfl | exact h.elim
theorem XH {e:Bool}{d:Option Nat}{k:RC}{cf:F4}{r:VM}(h:r.v.lt n):LZ e d k cf ls env r=k cf (r.v::ls) (bW d r.v env) r.m:=by
 cases e with
 | false=>rfl
 | true=>exact Qk h
theorem xI {op:Op}{o:Oper}(ho:o.op=op){v:j3}(hm:RM P G ι m w.heap)(hg:(execOp a.eval o).run P w=.ok (.value (o8 ι v)) w)(hlt:v.lt (m.nm ι)):
  Does P a.eval o w (aQ P G ι m w [⟨v,m⟩]):=O7 hg ⟨_,J3.2 rfl,ι,Step.refl hm,hlt,rfl⟩
theorem UJ {cf:F4}(hcf:mU P G cf)(s:St P ι (m.nm ι) slots done ls env a.tmps)(hm:RM P G ι m w.heap){op:Op}{ao:yw}(h:fO P slots done op=some ao){outs:List VM}(hv:Qj cf ao ls env m=some outs):
  ∀o:Oper,o.op=op->kC P a.eval o w (P8 P G ι m w outs):=by
 intro o ho;cases ao with
 | p po=>obtain⟨v,h1,h2⟩:=C8 hv;cases h2;obtain⟨g1,g2⟩:=rH s h h1;exact aj (xI ho hm (g2 o ho w) g1)
 | r ro=>obtain⟨v,h1,h2⟩:=C8 hv;cases h2;obtain⟨g1,g2⟩:=rJ s hm (uE h) h1;exact aj (xI ho hm (g2 o ho) g1)
 | a lo=>
  obtain⟨r,h1,h2⟩:=C8 hv;cases h2;have hn:¬ (m.nm ι) m.nx:=λ⟨_,h3,_⟩=>afB _ (Mem.I8 hm.ok h3);have hs:=rP s (λ_ _=>rfl) hn (yJ h) h1 w;cases hs with
  | none hlt hg=>exact aj (xI ho hm (hg o ho w) hlt)
  | made l obj w' hmk=>rename_i v b;have hlaid:=Laid.new hm.ok hm.limn b hmk.live;have hext:∀j,m.has j->(ι.upd m.nx l) j=ι j:=λj hj=>ι.upd_ne _ λh=>hlaid.free (h▸hj);obtain⟨hb,hlt⟩:=hmk.blk ((m.new b).nm (ι.upd m.nx l)) (Mem.ah hlaid.has hext) hlaid.self (by show ((ι.upd m.nx l) m.nx).cap=l.cap;rw [K4.Q8]);exact aj (O7 (hmk.run o ho) ⟨_,J3.2 rfl,_,Step.lay hm hlaid hmk.grew hmk.loc hmk.spot hb hmk.free,hlt,rfl⟩)
  | tail l hp hb hg hlt=>rename_i v p;have hlaid:=Laid.new hm.ok hm.limn (.tail p) rfl;have hext:∀j,m.has j->(ι.upd m.nx l) j=ι j:=λj hj=>ι.upd_ne _ λh=>hlaid.free (h▸hj);refine aj (O7 (hg o ho w) ⟨_,J3.2 rfl,_,Step.name hm hlaid rfl ⟨hlaid.has p hp,?_⟩,hlt _ (Mem.ah hlaid.has hext) hlaid.self (by show ((ι.upd m.nx l) m.nx).cap=l.cap;rw [K4.Q8]),rfl⟩);rw [hext p hp];exact hb
 | e eo=>exact Ak hcf s hm h hv o ho
theorem St.mono {ι':K4}{n':Nm}{tmps:Array Value}(s:St P ι n slots done ls env tmps)(hi:∀i,n i->ι' i=ι i)(hn:n.le n'):St P ι' n' slots done ls env tmps where
 ls t k hk:=by obtain⟨v,h1,h2,h3⟩:=s.ls t k hk;exact⟨v,h1,j3.O6 hn v h2,by rw [h3,Q0 hi v h2]⟩
 env:=s.env.mono hi hn
 glob i hg:=by rw [hi i (s.gn i hg)];exact s.glob i hg
 gn g hg:=(hn g (s.gn g hg)).1
theorem mW (t:Nat):∀(l:List (Option Nat)) (i j:Nat),iG t l (i+j)=(iG t l i).map (· + j)
 | [],i,j=>rfl
 | some x::l,i,j=>by
  simp only [iG];cases Nat.beq x t with
  | true=>simp
  | false=>simp only [cond_false];rw [show i+j+1=(i+1)+j from by omega];exact mW t l (i+1) j
 | none::l,i,j=>by simp only [iG];rw [show i+j+1=(i+1)+j from by omega];exact mW t l (i+1) j
def aev (d:Option Tmp)(v:Value)(tmps:Array Value):Array Value:=match d with
 | some t=>tmps.setIfInBounds t v
 | none=>tmps
theorem St.put {tmps:Array Value}(s:St P ι n slots done ls env tmps)(d:Option Tmp)(hd:∀t,d=some t->t<tmps.size){v:j3}(hv:v.lt n):
  St P ι n slots (d::done) (v::ls) (bW (FM slots d) v env) (aev d (o8 ι v) tmps) where
 ls t k hk:=by
  cases d with
  | none=>simp only [iG] at hk;rw [mW t done 0 1] at hk;obtain⟨k',hk',rfl⟩:=ac4.1 hk;obtain⟨u,h1,h2,h3⟩:=s.ls t k' hk';exact⟨u,by simpa using h1,h2,h3⟩
  | some t0=>
   simp only [iG] at hk;cases hb:Nat.beq t0 t with
   | true=>rw [hb] at hk;cases hk;obtain rfl:=J4 hb;exact⟨v,rfl,hv,by show (tmps.setIfInBounds t0 (o8 ι v)).getD t0 undef=_;rw [aU _ _ _ _ (hd t0 rfl),if_pos rfl]⟩
   | false=>rw [hb,cond_false,mW t done 0 1] at hk;obtain⟨k',hk',rfl⟩:=ac4.1 hk;obtain⟨u,h1,h2,h3⟩:=s.ls t k' hk';refine⟨u,by simpa using h1,h2,?_⟩;show (tmps.setIfInBounds t0 (o8 ι v)).getD t undef=_;rw [aU _ _ _ _ (hd t0 rfl),if_neg (λe=>by rw [e] at hb;simp [ac0] at hb)];exact h3
 env:=s.env.put d hv
 glob:=s.glob
 gn:=s.gn
theorem iA (a:Act)(d:Option Tmp)(v:Value):(a.put d v).tmps=aev d v a.tmps∧(a.put d v).defers=a.defers:=by cases d<;>exact⟨rfl,rfl⟩
theorem bJ (a:Act)(d:Option Tmp)(v:Value):(a.put d v).tmps.size=a.tmps.size:=by cases d<;>simp [Act.put]
def mX (ops:Array Oper)(done:List (Option Nat)):Option (Nat×Bool)->Option (P6×Bool)->Prop
 | none,g=>g=none
 | some (j,wt),g=>∃og d k,ops[j]?=some og∧og.dst=some d∧iG d done 0=some k∧g=some (.loc k,wt)
def sZ (g:Option (P6×Bool))(ls:List j3)(env:T j3):Bool:=match g with
 | none=>true
 | some (x,wt)=>oP wt (F9 x ls env)
def bOf:Option Value->Option Bool
 | some (.bool b)=>some b
 | _=>none
theorem OL (ops:Array Oper)(tmps:Array Value)(j:Nat):yielded ops tmps j=bOf (((ops[j]?).bind (·.dst)).bind (tmps[·]?)):=by
 unfold yielded;generalize ((ops[j]?).bind (·.dst)).bind (tmps[·]?)=z;cases z with
 | none=>rfl
 | some v=>cases v<;>rfl
theorem UK (wt:Bool)(v:j3):(bOf (some (o8 ι v))==some wt)=oP wt v:=by
 cases v with
 | bool b=>simp only [o8,bOf,oP,zY];cases b<;>cases wt<;>rfl
 | _=>simp [o8,oP,bOf]
theorem nG {ops:Array Oper}{o:Oper}{g:Option (P6×Bool)}{tmps:Array Value}(s:St P ι n slots done ls env tmps)(hg:mX ops done o.guard g):
  Region.wanted o (yielded ops tmps)=sZ g ls env:=by
 unfold Region.wanted;cases hgd:o.guard with
 | none=>rw [hgd] at hg;obtain rfl:g=none:=hg;rfl
 | some p=>
  obtain⟨j,wt⟩:=p;rw [hgd] at hg;obtain⟨og,d,k,h1,h2,h3,rfl⟩:=hg;obtain⟨v,h4,h5,h6⟩:=s.ls d k h3;have hx:F9 (.loc k) ls env=v:=by rw [Dv,h4];rfl
  show (yielded ops tmps j==some wt)=oP wt (F9 (.loc k) ls env);rw [hx,OL,h1,aei,h2,aei,← UK (ι:=ι)];rw [Xd] at h6;cases ht:tmps[d]? with
  | none=>rw [ht] at h6;have h6:undef=o8 ι v:=h6;rw [← h6];rfl
  | some x=>rw [ht] at h6;have h6:x=o8 ι v:=h6;rw [h6]
theorem mY {r:Option Nat}{o:Oper}{a:Act}{w:World}{next:Act->World->Prop}{Q:Exit->Act->World->Prop}(hnd:∀c,o.op≠.defer c){R:Ending->World->Prop}(h:kC P a.eval o w R)
  (hn:∀v w',R (.returned v) w'->next (a.put o.dst v) w') (hp:∀c w',R (.panicked c) w'->Q (.panic c) a w') (ho:∀w',¬ R .outgrown w'):o.wpIn (FR r) 0 P a w next Q:=by
 refine⟨λ_ _=>trivial,?_⟩;rw [Oper.semAt_eq _ _ _ hnd];unfold kC at h;generalize (execOp a.eval o).run P w=res at h;cases res with
 | halt x w'=>
  cases x with
  | panic v=>exact hp _ _ h
  | _=>exact h.elim
 | ok x w'=>
  cases x with
  | value v=>exact hn _ _ h
  | skip=>exact hn _ _ h
  | enter f args=>
   refine⟨(λhc=>by cases hc),aiM (F:=FR r) h ?_⟩;intro e w'' hR;cases e with
   | returned v=>exact hn _ _ hR
   | panicked c=>exact hp _ _ hR
   | outgrown=>exact absurd hR (ho _)
  | round l f tmps assign body=>
   refine⟨(λhc=>by cases hc),RoundIn.mono (F:=FR r) h ?_⟩;intro e w'' hR;cases e with
   | returned v=>exact hn _ _ hR
   | panicked c=>exact hp _ _ hR
   | outgrown=>exact absurd hR (ho _)
  | _=>exact h.elim
theorem iO {r:Option Nat}{o:Oper}{a:Act}{w:World}{next:Act->World->Prop}{Q:Exit->Act->World->Prop}(hnd:∀c,o.op≠.defer c){R:Value->World->Prop}(h:Does P a.eval o w R)
  (hn:∀v w',R v w'->next (a.put o.dst v) w'):o.wpIn (FR r) 0 P a w next Q:=by
 refine mY hnd (OH h) (λv w' h=>?_) (λc w' h=>?_) (λw' h=>?_);obtain⟨u,e,h⟩:=h;cases e;exact hn _ _ h;obtain⟨u,e,_⟩:=h;cases e;obtain⟨u,e,_⟩:=h;cases e
theorem qH {op:Op}{ao:yw}(h:fO P slots done op=some ao)(hne:∀f as,ao≠.e (.defer f as)):∀c,op≠.defer c:=by rintro c rfl;simp only [fO] at h;split at h;obtain⟨_,_,h⟩:=bind_eq h;obtain⟨_,_,h⟩:=bind_eq h;cases h;exact hne _ _ rfl;cases h
theorem qm {outs:List VM}{w':World}:¬ P8 P G ι m w outs .outgrown w':=by rintro (⟨v,h,_⟩ | ⟨r,_,x,ι',_,_,_,h⟩)<;>cases h
theorem Ee {op:Op}{ao:yw}{cf:F4}{outs:List VM}(h:fO P slots done op=some ao)(hv:Qj cf ao ls env m=some outs):∀c,op≠.defer c:=by rintro c rfl;simp only [fO] at h;split at h;obtain⟨_,_,h⟩:=bind_eq h;obtain⟨_,_,h⟩:=bind_eq h;cases h;cases hv;cases h
theorem kQ {ops:Array Oper}{i:Nat}{x:Inst}{d:Option Nat}(h:pz P slots done ops i=some (x,d)):
  ∃o,ops[i]?=some o∧d=o.dst∧x.op=jZ P slots done o.op∧x.dst=FM slots o.dst∧mX ops done o.guard x.guard:=by
 obtain⟨o,h1,h⟩:=bind_eq h;dsimp only at h;cases hg:o.guard with
 | none=>rw [hg] at h;dsimp only at h;cases h;exact⟨o,h1,rfl,rfl,rfl,by rw [hg];rfl⟩
 | some p=>obtain⟨j,wt⟩:=p;rw [hg] at h;dsimp only at h;obtain⟨og,h3,h⟩:=bind_eq h;obtain⟨dd,h4,h⟩:=bind_eq h;obtain⟨k,h5,h⟩:=bind_eq h;cases h;exact⟨o,h1,rfl,rfl,rfl,by rw [hg];exact⟨og,dd,k,h3,h4,h5,rfl⟩⟩
theorem Ql {r:Option Nat}{cf:F4}(hcf:mU P G cf)(s:St P ι (m.nm ι) slots done ls env a.tmps)(hm:RM P G ι m w.heap){ops:Array Oper}{o:Oper}{g:Option (P6×Bool)}(hg:mX ops done o.guard g)
  {outs:List VM} (hv:evG cf g (jZ P slots done o.op) ls env m=some outs) {K:Act->World->Prop} {Q:Exit->Act->World->Prop}
  (hK:∀v∈outs,∀ι' w',Step P G ι m w ι' v.m w'->v.v.lt (v.m.nm ι')->K (a.put o.dst (o8 ι' v.v)) w')
  (hP:∀v∈outs,∀x ι' w',v.v=.mZ x->Step P G ι m w ι' v.m w'->x.lt (v.m.nm ι')->Q (.panic [{v:=o8 ι' x,recovered:=false}]) a w'):
  if Region.wanted o (yielded ops a.tmps) then o.wpIn (FR r) 0 P a w K Q else (∀f,o.about P w a.eval=some f->(FR r).fn f)∧K (a.put o.dst undef) w:=by
 rw [nG s hg];have hrun:Qj cf (jZ P slots done o.op) ls env m=some outs->o.wpIn (FR r) 0 P a w K Q:=by
  intro hv;cases hc:fO P slots done o.op with
  | none=>simp only [jZ,hc] at hv;cases hv
  | some ao=>simp only [jZ,hc] at hv;refine mY (Ee hc hv) (UJ hcf s hm hc hv o rfl) ?_ ?_ λ_=>qm;rintro v w' (⟨u,hu,x,hx,ι',h1,h2,rfl⟩ | ⟨_,_,_,_,_,_,_,h⟩);cases hu;exact hK x hx ι' w' h1 h2;cases h;rintro c w' (⟨u,hu,_⟩ | ⟨x,hx,y,ι',h1,h2,h3,h4⟩);cases hu;cases h4;exact hP x hx y ι' w' h1 h2 h3
 cases g with
 | none=>exact hrun hv
 | some p=>
  obtain⟨x,wt⟩:=p;have hv:bi (oP wt (F9 x ls env)) (Qj cf (jZ P slots done o.op) ls env m) (one .undef m)=some outs:=hv;have hgb:sZ (some (x,wt)) ls env=oP wt (F9 x ls env):=rfl;rw [hgb];cases hb:oP wt (F9 x ls env) with
  | true=>rw [hb] at hv;simp only [if_true];exact hrun hv
  | false=>rw [hb] at hv;cases hv;simp only [J9,if_false];refine⟨λ_ _=>trivial,?_⟩;have:=hK ⟨.undef,m⟩ (J3.2 rfl) ι w (Step.refl hm) trivial;rw [kP] at this;exact this
theorem pO {ops:Array Oper}{i:Nat}{rest:List Nat}{insts:List Inst}(h:jH P slots ops done (i::rest)=some insts):
  ∃x d l,pz P slots done ops i=some (x,d)∧jH P slots ops (d::done) rest=some l∧insts=x::l:=by
 simp only [jH] at h;split at h;split at h;cases h;exact⟨_,_,_,by assumption,by assumption,rfl⟩;cases h;cases h
def sM (ι:K4):Mk->Deferred
 | .c id=>{target:=.collected (ι id).b,args:=#[]}
 | .d (.func fn a b) args=>{target:=.fn (je ι fn) (y7 ι b).toArray,args:=(y7 ι a).toArray++(y7 ι args).toArray}
 | .d _ _=>{target:=.nil,args:=#[]}
def RI (ι:K4)(m:Mem):Mk->Prop
 | .c id=>m.has id∧m.lim<=id
 | .d v args=>(∃fn a b,v=.func fn a b)∧v.lt (m.nm ι)∧aS (m.nm ι) args
def gD (ι:K4)(m:Mem)(k:List Mk)(ds:List Deferred):Prop:=ds=k.map (sM ι)∧∀x∈k,RI ι m x
theorem RI.step {ι':K4}{m':Mem}{w':World}{x:Mk}(h:RI ι m x)(hst:Step P G ι m w ι' m' w'):RI ι' m' x∧sM ι' x=sM ι x:=by
 cases x with
 | c id=>exact⟨⟨hst.has id h.1,by rw [hst.lim];exact h.2⟩,by simp only [sM,hst.ext id h.1]⟩
 | d v args=>obtain⟨⟨fn,a,b,rfl⟩,h1,h2⟩:=h;have e:=hst.o8 h1;have hle:=Mem.ah hst.has hst.ext;refine⟨⟨⟨fn,a,b,rfl⟩,j3.O6 hle _ h1,dB hle _ h2⟩,?_⟩;have e2:=eT (n:=m.nm ι) hst.ext args h2;simp only [o8,Value.func.injEq] at e;obtain⟨e3,e4,e5⟩:=e;simp only [sM,e2,e3,e4,e5]
theorem gD.step {ι':K4}{m':Mem}{w':World}{k:List Mk}{ds:List Deferred}(h:gD ι m k ds)(hst:Step P G ι m w ι' m' w'):gD ι' m' k ds:=by refine⟨?_,λx hx=>((h.2 x hx).step hst).1⟩;rw [h.1];exact aiy λx hx=>((h.2 x hx).step hst).2.symm
def UL (ι:K4)(e:EM):Exit:=match e.px with
 | none=>.normal
 | some x=>.panic [{v:=o8 ι x,recovered:=false}]
theorem xJ {i:Inst}{l:List Inst}(h:l≠[]∨oW i=none):bC (i::l)=TJ i.op i.dst i.guard (bC l):=by
 cases l with
 | cons=>rfl
 | nil=>rcases h with h | h;exact absurd rfl h;show Di i=TJ i.op i.dst i.guard r9;unfold Di;rw [h]
theorem ab9 {r:Option Nat}(hr:r=none)(s:St P ι (m.nm ι) slots done ls env a.tmps)(hm:RM P G ι m w.heap){ops:Array Oper}{o:Oper}{x:Inst}(h2:x.op=jZ P slots done o.op)(h3:x.dst=FM slots o.dst)(h4:mX ops done o.guard x.guard)
  {f:P6} {as:List P6} (hd:oW x=some (f,as)) {outs:List EM} {cf:F4} (hv:Gu (F9 f) (fD as) cf ls env m=some outs) {Q:Exit->Act->World->Prop}
  (hQ:∀e∈outs,∀ι' w' a',Step P G ι m w ι' e.m w'->U7 ι' (e.m.nm ι') slots e.env a'.tmps->a'.defers=e.mks.map (sM ι')++a.defers->(∀y∈e.mks,RI ι' e.m y)->a'.tmps.size=a.tmps.size->(∀y,e.px=some y->y.lt (e.m.nm ι'))->Q (UL ι' e) a' w'):
  if Region.wanted o (yielded ops a.tmps) then o.wpIn (FR r) 0 P a w (Q .normal) Q else (∀f,o.about P w a.eval=some f->(FR r).fn f)∧Q .normal (a.put o.dst undef) w:=by
 subst hr;obtain⟨op,dst,guard⟩:=x;have h2:op=jZ P slots done o.op:=h2;have h3:dst=FM slots o.dst:=h3;have h4:mX ops done o.guard guard:=h4;have hform:op=.e (.defer f as)∧guard=none∧dst=none:=by unfold oW at hd;split at hd;rename_i g1 g2 g3;cases hd;exact⟨g1,g2,g3⟩;cases hd
 obtain⟨rfl,rfl,rfl⟩:=hform;have hw:Region.wanted o (yielded ops a.tmps)=true:=by rw [nG s h4];rfl
 rw [hw,if_pos rfl];have hc:fO P slots done o.op=some (.e (.defer f as)):=by unfold jZ at h2;split at h2;rename_i ao hao;rw [hao,← h2];cases h2
 cases hop:o.op with
 | defer c=>
  rw [hop] at hc;cases yK hc with
  | defer g1 g2 g3=>
   obtain⟨e1,e2⟩:=A8 s g2;obtain⟨e3,e4⟩:=JB s g3;obtain⟨fn,x,y,e5,hv⟩:=Jl hv;cases hv;rw [e5] at e1 e2;refine⟨λ_ _=>trivial,?_⟩;have hrun:(Oper.semAt none a.eval o).run P w=.ok (.defer (sM ι (.d (.func fn x y) (evs (fD as) ls env)))) w:=by rw [Oper.semAt_none];simp [execOp,hop,resolve,g1,e1,e3,o8,Deferred.ofValue,sM]
   show o.uponIn (FR none) 0 P a (Q .normal) Q ((Oper.semAt none a.eval o).run P w);rw [hrun];have hen:=s.env.put o.dst (v:=.undef) trivial;rw [← h3,kP] at hen;refine hQ _ (J3.2 rfl) ι w _ (Step.refl hm) ?_ ?_ ?_ ?_ (λy hy=>by cases hy);rw [(iA _ o.dst undef).1];exact hen;rw [(iA _ o.dst undef).2];rfl;intro z hz;obtain rfl:=J3.1 hz;exact⟨⟨_,_,_,rfl⟩,e2,e4⟩;rw [bJ]
 | _=>rw [hop] at hc;cases yK hc
theorem RJ {r:Option Nat}{cf:F4}(hcf:mU P G cf){ops:Array Oper}{nt:Nat}(hin:∀(i:Nat)(o:Oper)(t:Tmp),ops[i]?=some o->o.dst=some t->t<nt){Q:Exit->Act->World->Prop}:
  ∀(l:List Nat) (done:List (Option Nat)) (insts:List Inst),jH P slots ops done l=some insts->(jd insts=true->r=none)->∀(ls:List j3) (env:T j3) (m:Mem) (ι:K4) (w:World) (a:Act) (outs:List EM),
   RM P G ι m w.heap->nt<=a.tmps.size->St P ι (m.nm ι) slots done ls env a.tmps->bC insts cf ls env m=some outs->
   (∀e∈outs,∀ι' w' a',Step P G ι m w ι' e.m w'->U7 ι' (e.m.nm ι') slots e.env a'.tmps->a'.defers=e.mks.map (sM ι')++a.defers->(∀y∈e.mks,RI ι' e.m y)->a'.tmps.size=a.tmps.size->(∀y,e.px=some y->y.lt (e.m.nm ι'))->Q (UL ι' e) a' w')->
   wpOpsIn (FR r) 0 P ops Q l a w:=by
 intro l;induction l with
 | nil=>intro done insts hc hdr ls env m ι w a outs hm hnt s hv hQ;simp only [jH,J6] at hc;subst hc;have hv:some [EM.mk env m none []]=some outs:=hv;cases hv;exact hQ _ (J3.2 rfl) ι w a (Step.refl hm) s.env rfl (λy hy=>by cases hy) rfl (λy hy=>by cases hy)
 | cons i rest ih=>
  intro done insts hc hdr ls env m ι w a outs hm hnt s hv hQ;obtain⟨x,d,l,hx,hl,rfl⟩:=pO hc;obtain⟨o,h1,rfl,h2,h3,h4⟩:=kQ hx;simp only [wpOpsIn,h1];by_cases hdd:l≠[]∨oW x=none;rw [xJ hdd] at hv;obtain⟨vs,hvs,hk⟩:=yV hv;rw [h2] at hvs;refine Ql hcf s hm h4 hvs ?_ ?_;intro v hvm ι' w' hst hlt;obtain⟨os,hos,hsub⟩:=hk v hvm;rw [XH hlt,h3] at hos;have s':=(St.mono (n:=m.nm ι) s hst.ext (Mem.ah hst.has hst.ext)).put o.dst (λt ht=>Xb (hin i o t h1 ht) hnt) hlt;refine ih _ _ hl (λh=>hdr (by simp [jd,h])) _ _ _ ι' w' (a.put o.dst (o8 ι' v.v)) os hst.rm (by rw [bJ];exact hnt) (by rw [(iA a o.dst (o8 ι' v.v)).1];exact s') hos ?_;intro e he ι'' w'' a'' hst' hen hdef hmk hsz hpx;exact hQ e (hsub e he) ι'' w'' a'' (hst.trans hst') hen (by rw [hdef,(iA a o.dst _).2]) hmk (hsz.trans (bJ a o.dst _)) hpx;intro v hvm y ι' w' hvy hst hlt;obtain⟨os,hos,hsub⟩:=hk v hvm;have hE:wS x.op=true:=by
   cases hb:wS x.op with
   | true=>rfl
   | false=>exfalso;exact not_pan hcf s hm h4 h2 hb hvs hvm hvy
  have hos:some [(⟨env,v.m,some y,[]⟩:EM)]=some os:=by
   have:LZ (wS x.op) x.dst (bC l) cf ls env v=some [⟨env,v.m,some y,[]⟩]:=by unfold LZ;rw [hE,hvy];rfl
   rw [← hos,this]
  cases hos;exact hQ _ (hsub _ (J3.2 rfl)) ι' w' a hst (hst.env s.env) rfl (λy hy=>by cases hy) rfl (λz hz=>by cases hz;exact hlt);simp only [not_or,Decidable.not_not] at hdd;obtain⟨rfl,hdf⟩:=hdd;cases hdo:oW x with
  | none=>exact absurd hdo hdf
  | some p=>
   obtain⟨f,as⟩:=p;have hr:r=none:=hdr (by simp [jd,hdo]);have hv:Gu (F9 f) (fD as) cf ls env m=some outs:=by have:bC [x]=Gu (F9 f) (fD as):=(by show Di x=_;unfold Di;rw [hdo]);rw [← this];exact hv
   have hrest:rest=[]:=by
    cases rest with
    | nil=>rfl
    | cons j rest=>obtain⟨_,_,_,_,_,h⟩:=pO hl;cases h
   subst hrest;exact ab9 hr s hm h2 h3 h4 hdo hv hQ
where
 not_pan {P:Program} {G:Mem} {ι:K4} {m:Mem} {w:World} {slots:List Nat} {done:List (Option Nat)} {ls:List j3} {env:T j3} {a:Act} {cf:F4} (hcf:mU P G cf) (s:St P ι (m.nm ι) slots done ls env a.tmps) (hm:RM P G ι m w.heap) {ops:Array Oper} {o:Oper} {x:Inst}
   (h4:mX ops done o.guard x.guard) (h2:x.op=jZ P slots done o.op) (hb:wS x.op=false) {vs:List VM} (hvs:evG cf x.guard (jZ P slots done o.op) ls env m=some vs) {v:VM} (hvm:v∈vs) {y:j3} (hvy:v.v=.mZ y):False:=by
  rw [← h2] at hvs;have key:Qj cf x.op ls env m=some vs->False:=by
   intro hv;cases hc:fO P slots done o.op with
   | none=>rw [h2] at hb;simp [jZ,hc,wS] at hb
   | some ao=>
    have hxo:x.op=ao:=(by rw [h2];simp [jZ,hc]);rw [hxo] at hv hb;cases ao with
    | p po=>obtain⟨u,h5,h6⟩:=C8 hv;cases h6;obtain rfl:=J3.1 hvm;have:=(rH s hc h5).1;have hvy:u=.mZ y:=hvy;rw [hvy] at this;exact this
    | r ro=>obtain⟨u,h5,h6⟩:=C8 hv;cases h6;obtain rfl:=J3.1 hvm;have:=(rJ s hm (uE hc) h5).1;have hvy:u=.mZ y:=hvy;rw [hvy] at this;exact this
    | a lo=>
     obtain⟨u,h5,h6⟩:=C8 hv;cases h6;obtain rfl:=J3.1 hvm;have hvy1:u.1=.mZ y:=hvy;clear hvm hvs hv hvy;have hvy:=hvy1;clear hvy1;have hn:¬ (m.nm ι) m.nx:=λ⟨_,h3,_⟩=>afB _ (Mem.I8 hm.ok h3);have hs:=rP s (λ_ _=>rfl) hn (yJ hc) h5 w;cases hs with
     | none hlt hg=>dsimp only at hvy;subst hvy;exact hlt
     | made l obj w' hmk=>have:=(hmk.blk ⟨λ_=>True,λi=>if i=m.nx then l.cap else (ι i).cap⟩ (λi hi=>⟨trivial,by show (if i=m.nx then l.cap else (ι i).cap)=(ι i).cap;rw [if_neg];rintro rfl;exact hn hi⟩) trivial (if_pos rfl)).2;dsimp only at hvy;subst hvy;exact this
     | tail l hp hbb hg hlt=>have:=hlt ⟨λ_=>True,λi=>if i=m.nx then l.cap else (ι i).cap⟩ (λi hi=>⟨trivial,by show (if i=m.nx then l.cap else (ι i).cap)=(ι i).cap;rw [if_neg];rintro rfl;exact hn hi⟩) trivial (if_pos rfl);dsimp only at hvy;subst hvy;exact this
    | e eo=>simp [wS] at hb
  cases hg:x.guard with
  | none=>rw [hg] at hvs;exact key hvs
  | some z=>
   obtain⟨q,wt⟩:=z;rw [hg] at hvs;have hvs:bi (oP wt (F9 q ls env)) (Qj cf x.op ls env m) (one .undef m)=some vs:=hvs;cases hB:oP wt (F9 q ls env) with
   | true=>rw [hB] at hvs;exact key hvs
   | false=>rw [hB] at hvs;cases hvs;obtain rfl:=J3.1 hvm;cases hvy
end
theorem UM (v:j3):∀(n i j:Nat) (t:T j3),i≠j->way n j (tH n i v t)=way n j t:=by
 intro n;induction n with
 | zero=>intro i j t h;rfl
 | succ n ih=>
  intro i j t h;cases t with
  | e=>
   cases i with
   | zero=>rfl
   | succ i=>rcases abU i with h0 | h0<;>simp only [tH,h0]<;>rfl
  | nd l x r=>
   cases i with
   | zero=>
    cases j with
    | zero=>exact absurd rfl h
    | succ j=>rcases abU j with h0 | h0<;>simp only [way,tH,h0]<;>rfl
   | succ i=>
    cases j with
    | zero=>rcases abU i with h0 | h0<;>simp only [way,tH,h0]<;>rfl
    | succ j=>
     rcases abU i with h0 | h0<;>rcases abU j with h1 | h1<;>simp only [way,tH,h0,h1]
     exact ih (i / 2) (j / 2) l (by omega);rfl;rfl;exact ih (i / 2) (j / 2) r (by omega)
theorem Ef {d:Option Nat}{j:Nat}(h:d≠some j)(v:j3)(ls ls':List j3)(env:T j3):F9 (.slot j) ls' (bW d v env)=F9 (.slot j) ls env:=by
 cases d with
 | none=>rfl
 | some i=>exact UM v 64 i j env (λe=>h (by rw [e]))
theorem UN {d:Option Nat}{y:P6}(h:∀j,y=.slot j->d≠some j)(v:j3)(ls:List j3)(env:T j3):F9 (bump y) (v::ls) (bW d v env)=F9 y ls env:=by
 cases y with
 | loc k=>rw [Dv];show F9 (.loc (k+1)) (v::ls) (bW d v env)=_;rw [Dv];simp
 | slot j=>exact Ef (h j rfl) v ls (v::ls) env
 | con c=>rfl
section
variable {f:P6->P6}{ls ls':List j3}{env env':T j3}
theorem GZ {o:yw}(h:∀x∈CV o,Sm f ls env ls' env' x)(cf:F4)(m:Mem):Qj cf (mapA f o) ls' env' m=Qj cf o ls env m:=by
 cases o with
 | p o=>show ob (nk (jY f o) ls' env') _=ob (nk o ls env) _;rw [GU h]
 | r o=>show ob (ru (zW f o) ls' env' m) _=ob (ru o ls env m) _;rw [GV h]
 | a o=>show ob (wH (Jg f o) ls' env' m.nx) _=ob (wH o ls env m.nx) _;rw [GX h]
 | e o=>exact GY h cf m
theorem RL {o:yw}{g:Option (P6×Bool)}(h:∀x∈CV o,Sm f ls env ls' env' x)(hg:∀p,g=some p->Sm f ls env ls' env' p.1)(cf:F4)(m:Mem):
  evG cf (g.map λp=>(f p.1,p.2)) (mapA f o) ls' env' m=evG cf g o ls env m:=by
 cases g with
 | none=>exact GZ h cf m
 | some p=>obtain⟨x,wt⟩:=p;have h0:F9 (f x) ls' env'=F9 x ls env:=hg _ rfl;show bi (oP wt (F9 (f x) ls' env')) (Qj cf (mapA f o) ls' env' m) (one .undef m)=bi (oP wt (F9 x ls env)) (Qj cf o ls env m) (one .undef m);rw [h0,GZ h]
end
theorem UO {α β:Type}{x:Option (List α)}{f g:α->Option (List β)}(h:∀a os,f a=some os->g a=some os){outs:List β}(hx:bnd x f=some outs):bnd x g=some outs:=by
 have key:∀(l:List α) (outs:List β),Dh f l=some outs->Dh g l=some outs:=by
  intro l;induction l with
  | nil=>intro outs h;exact h
  | cons a l ih=>intro outs hl;rw [xH] at hl ⊢;obtain⟨x,h1,hl⟩:=C8 hl;obtain⟨y,h2,hl⟩:=C8 hl;rw [h _ _ h1,ih _ h2];exact hl
 cases x with
 | none=>cases hx
 | some l=>
  match l,hx with
  | [],hx=>exact hx
  | [a],hx=>exact h a _ hx
  | a::b::t,hx=>exact key (a::b::t) _ hx
theorem RN (f:P6->P6)(o:yw):wS (mapA f o)=wS o:=by cases o<;>rfl
theorem Qm {β:Type}{v:j3}{p:j3->β}{q:β}(h:¬ ∃x,v=.mZ x):dx v p q=q:=by cases v<;>first | rfl | exact absurd ⟨_,rfl⟩ h
theorem RO {e:Bool}{d:Option Nat}{k k':RC}{cf:F4}{ls ls':List j3}{env:T j3}{r:VM}{os:List EM}(h:∀os,k cf (r.v::ls') (bW d r.v env) r.m=some os->k' cf (r.v::ls) (bW d r.v env) r.m=some os)
  (hk:LZ e d k cf ls' env r=some os):LZ e d k' cf ls env r=some os:=by
 cases e with
 | false=>exact h os hk
 | true=>have hk:dx r.v (λx=>some [⟨env,r.m,some x,[]⟩]) (k cf (r.v::ls') (bW d r.v env) r.m)=some os:=hk;show dx r.v (λx=>some [⟨env,r.m,some x,[]⟩]) (k' cf (r.v::ls) (bW d r.v env) r.m)=some os;by_cases hx:∃x,r.v=.mZ x;obtain⟨v,mm⟩:=r;obtain⟨x,hx⟩:=hx;have hx:v=.mZ x:=hx;subst hx;exact hk;rw [Qm hx] at hk ⊢;exact h os hk
theorem RP {f:P6->P6}{i:Inst}{g:Option (P6×Bool)}(h:oW i=none)(hg:g.isNone=i.guard.isNone):oW ⟨mapA f i.op,i.dst,g⟩=none:=by
 obtain⟨op,dst,guard⟩:=i;cases guard with
 | some p=>
  cases g with
  | none=>cases hg
  | some q=>simp [oW]
 | none=>
  cases g with
  | some q=>cases hg
  | none=>
   cases dst with
   | some d=>simp [oW]
   | none=>
    cases op with
    | e o=>cases o<;>first | rfl | cases h
    | _=>rfl
def Rl (r:List P6)(ls ls':List j3)(env:T j3):Prop:=∀k,F9 (r.getD k (.con .undef)) ls' env=(ls[k]?).getD .undef
theorem Rl.rn {r:List P6}{ls ls':List j3}{env:T j3}(h:Rl r ls ls' env)(x:P6):Sm (rn r) ls env ls' env x:=by
 cases x with
 | loc k=>show F9 (r.getD k (.con .undef)) ls' env=F9 (.loc k) ls env;rw [h k,Dv]
 | slot j=>rfl
 | con c=>rfl
theorem Bn {i:Inst}{l:List Inst}(h:jd (i::l)=false):bC (i::l)=TJ i.op i.dst i.guard (bC l):=by
 refine xJ (.inr ?_);simp only [jd,afJ] at h;cases hd:oW i with
 | none=>rfl
 | some p=>rw [hd] at h;cases h.1
theorem JC (cf:F4):∀(l:List Inst) (r:List P6) (ls ls':List j3) (env:T j3) (m:Mem) (outs:List EM),jd l=false->Rl r ls ls' env->(∀j,.slot j∈r->wZ j l=false)->
  bC (lZ r l) cf ls' env m=some outs->bC l cf ls env m=some outs:=by
 intro l;induction l with
 | nil=>intro r ls ls' env m outs _ _ _ h;exact h
 | cons i l ih=>
  intro r ls ls' env m outs hnd hr hs h;have hnd':jd l=false:=by simp only [jd,afJ] at hnd;exact hnd.2
  have hs':∀j,.slot j∈r->i.dst≠some j∧wZ j l=false:=λj hj=>by have:=hs j hj;simpa [wZ] using this
  have keep:bC (⟨mapA (rn r) i.op,i.dst,i.guard.map λp=>(rn r p.1,p.2)⟩::lZ (.loc 0::r.map bump) l) cf ls' env m=some outs->bC (i::l) cf ls env m=some outs:=by
   intro h;have hd:oW i=none:=by
    simp only [jd,afJ] at hnd;cases hd:oW i with
    | none=>rfl
    | some p=>rw [hd] at hnd;cases hnd.1
   rw [xJ (.inr (RP hd (by cases i.guard<;>rfl)))] at h
   rw [Bn hnd];have h:TJ (mapA (rn r) i.op) i.dst (i.guard.map λp=>(rn r p.1,p.2)) (bC (lZ (.loc 0::r.map bump) l)) cf ls' env m=some outs:=h;rw [UH] at h ⊢;rw [RL (λx _=>hr.rn x) (λp _=>hr.rn p.1),RN] at h;refine UO (λv os hv=>RO (λos hv=>?_) hv) h;refine ih _ _ _ _ _ _ hnd' ?_ ?_ hv;intro k;cases k with
   | zero=>rfl
   | succ k=>
    have e1:(P6.loc 0::r.map bump).getD (k+1) (.con .undef)=bump (r.getD k (.con .undef)):=by rw [Z8,Z8,ad4,abY];cases r[k]? <;> rfl
    rw [e1,UN,hr k];simp;intro j hj;have:P6.slot j∈r:=by
     rw [Z8] at hj;cases hk:r[k]? with
     | none=>rw [hk] at hj;cases hj
     | some y=>rw [hk] at hj;obtain rfl:y=.slot j:=hj;exact Y5 hk
    exact (hs' j this).1
   intro j hj;rcases Z7.1 hj with hj | hj;cases hj;obtain⟨y,hy,hyj⟩:=aeg.1 hj;cases y with
   | slot j'=>obtain rfl:j'=j:=by simpa [bump] using hyj
              exact (hs' _ hy).2
   | loc k=>simp [bump] at hyj
   | con c=>simp [bump] at hyj
  have drop:∀x,i.op=.p (.mov x)->i.dst=none->i.guard=none->(∀j,rn r x=.slot j->wZ j l=false)->bC (lZ (rn r x::r) l) cf ls' env m=some outs->bC (i::l) cf ls env m=some outs:=by
   intro x h1 h2 h3 h4 h;rw [Bn hnd,h1,h2,h3];show bC l cf (F9 x ls env::ls) env m=some outs;refine ih _ _ _ _ _ _ hnd' ?_ ?_ h;intro k;cases k with
   | zero=>exact hr.rn x
   | succ k=>simpa using hr k
   intro j hj;rcases Z7.1 hj with hj | hj;exact h4 j hj.symm;exact (hs' j hj).2
  simp only [lZ] at h;split at h;rename_i x h1 h2 h3;split at h;rename_i j hj;cases hw:wZ j l with
  | true=>rw [hw] at h;exact keep h
  | false=>rw [hw] at h;refine drop x h1 h2 h3 (λj' hj'=>?_) (by rw [hj];exact h);rw [hj] at hj';cases hj';exact hw
  rename_i hns;exact drop x h1 h2 h3 (λj hj=>absurd hj (hns j)) h;exact keep h
section
variable {P:Program}{G:Mem}{ι:K4}{n:Nm}{m:Mem}{w:World}{slots:List Nat}{done:List (Option Nat)}{ls:List j3}{env:T j3}{a:Act}
def UQ:bK->Exit
 | .normal=>.normal
 | .exit id=>.exit id
 | .ret=>.ret
def Qn (ι:K4)(o:Out):Exit:=match o.pv with
 | none=>UQ o.x
 | some x=>.panic [{v:=o8 ι x,recovered:=false}]
def RQ (ι:K4)(o:Out):Prop:=∀x,o.pv=some x->o.x=.ret∧x.lt (o.m.nm ι)
theorem bA {ι:K4}{o:Out}(h:o.pv=none):RQ ι o:=λx hx=>by rw [h] at hx;cases hx
theorem lD {ι:K4}{o:Out}(h:RQ ι o)(hx:o.x≠.ret):o.pv=none:=by
 cases hp:o.pv with
 | none=>rfl
 | some x=>exact absurd (h x hp).1 hx
def RS (ι:K4)(m:Mem)(ir r:Option Nat):Prop:=r=ir.map (λl=>(ι l).b)∧∀l,ir=some l->m.has l
theorem RS.step {ι':K4}{m':Mem}{w':World}{ir r:Option Nat}{G:Mem}(h:RS ι m ir r)(hst:Step P G ι m w ι' m' w'):RS ι' m' ir r:=by
 refine⟨?_,λl hl=>hst.has l (h.2 l hl)⟩;rw [h.1];cases ir with
 | none=>rfl
 | some l=>simp [hst.ext l (h.2 l rfl)]
theorem St.start (hm:RM P G ι m w.heap){tmps:Array Value}(h:U7 ι (m.nm ι) slots env tmps):St P ι (m.nm ι) slots [] [] env tmps:=
 ⟨λt k hk=>by simp [iG] at hk,h,hm.glob,hm.ghas⟩
theorem uL {β:Type}{b:Option O9}{f:LoopState->Option bK->T j3->List (Option Nat)->U6->U6->Option β}{r:β}(h:oZ b f=some r):
  ∃st pend env params assign body,b=some (.loop st pend env params assign body)∧f st pend env params assign body=some r:=by
 unfold oZ at h;split at h;exact⟨_,_,_,_,_,_,rfl,h⟩;cases h
theorem Ma {cf:F4}(hcf:mU P G cf)(hm:RM P G ι m w.heap){g:Operand}{l:Nat}{fv:j3}(hg:a.eval g=o8 ι fv)(hlt:fv.lt (m.nm ι))(hl:m.has l){outs:List VM}
  (h:Ul cf m [.func (.yield l) [] []] fv=some outs):
  ∃d f args,(resolve a.eval (rangeCall g (ι l).b) 0).run P w=.ok d w∧(invoke d.target d.args).run P w=.ok (.enter f args) w∧CallsIn Fence.wide 0 P f args w (P8 P G ι m w outs):=by
 obtain⟨fn,x,y,rfl,h⟩:=Jl h;obtain⟨_,hx,hy⟩:=hlt;cases fn with
 | func gf=>have h:cf (.func gf) (aX x (aX [.func (.yield l) [] []] y)) m=some outs:=h;rw [V5,V5] at h;obtain⟨hf,hcall⟩:=hcf.func h;refine⟨{target:=.fn (.func gf) (y7 ι y).toArray,args:=(y7 ι x).toArray ++ #[.func (.yield (ι l).b) #[] #[]]},gf,_,?_,?_,hcall hm (jg hx ⟨⟨hl,trivial,trivial⟩,hy⟩)⟩;show (Deferred.ofValue (a.eval g) (#[Operand.const (.func (.yield (ι l).b) #[] #[])].map a.eval)).run P w=_;rw [hg];simp [o8,je,Deferred.ofValue,Act.eval];simp [invoke,mV hf,jP,y7,o8,je]
 | _=>cases h
theorem Gd {F:Fence}{nn:Nat}{Q:Exit->Act->World->Prop}{x:bK}(h:Q (UQ x) a w):(exitCode x).wpIn F nn P Q a w:=by
 cases x with
 | normal=>exact wpIn_skip h
 | exit id=>exact wpIn_exit h
 | ret=>exact wpIn_ret h
theorem Mc {r:Option Nat}{cf:F4}(hcf:mU P G cf){nt:Nat}{g:Operand}{ps:Array Tmp}{assign body:Code}{z:P6}{x y:U6}(hz:N9 P slots [] g=some z)(hx:Q7 P slots assign=some x)(hy:Q7 P slots body=some y)
  (ha:tmpsIn nt assign=true) (hb:tmpsIn nt body=true) {w1:World} {m1:Mem} {ι1:K4} {k:List Mk} {mark:List Deferred} {D:Nat} (hm:RM P G ι m w.heap) (hst1:Step P G ι m w ι1 m1 w1)
  (hen:U7 ι (m.nm ι) slots env a.tmps) (hnt:nt<=a.tmps.size)
  (henter:∀fn,(Instr.enterLoop fn a.tmps ps assign body r).run P w=.ok (w1.heap.size,mark) (w1.alloc (.loop {state:=.ready,pending:=none,fn,tmps:=a.tmps,params:=ps,assign,body,defers:=D})))
  (hmarks:gD ι1 m1 k (mark++a.defers)) {outs:List Out} (hv:Oi cf (F9 z [] env) (ps.toList.map λt=>idxOf t slots 0) x y env m1 k=some outs) {Q:Exit->Act->World->Prop}
  (hQ:∀o∈outs,∀ι' w' a',Step P G ι m w ι' o.m w'->U7 ι' (o.m.nm ι') slots o.env a'.tmps->a'.tmps.size=a.tmps.size->gD ι' o.m o.marks a'.defers->RQ ι' o->Q (Qn ι' o) a' w'):
  (Code.rangeFunc g ps assign body).wpIn (FR r) 0 P Q a w:=by
 refine wpIn_rangeFunc λfn _=>?_;obtain⟨e1,e2⟩:=A8 (St.start hm hen) hz;have hlaid:=Laid.new hst1.rm.ok hst1.rm.limn (.loop .ready none env (ps.toList.map λt=>idxOf t slots 0) x y) rfl;generalize hrec:({state:=.ready,pending:=none,fn,tmps:=a.tmps,params:=ps,assign,body,defers:=D}:Loop)=rec at *;have hext:∀j,m1.has j->(ι1.upd m1.nx ⟨w1.heap.size,0,0,none⟩) j=ι1 j:=λj hj=>ι1.upd_ne _ λh=>hlaid.free (h▸hj);have hst2:Step P G ι1 m1 w1 (ι1.upd m1.nx ⟨w1.heap.size,0,0,none⟩) (m1.new (.loop .ready none env (ps.toList.map λt=>idxOf t slots 0) x y)) (w1.alloc (.loop rec)):=by refine Step.lay (w':=w1.alloc (.loop rec)) hst1.rm hlaid (o:=.loop rec) (l:=⟨w1.heap.size,0,0,none⟩) ⟨rfl,rfl,rfl,rfl⟩ rfl rfl ?_ (by intro _ _ _ h;cases h);refine⟨rec,dh,by rw [← hrec],by rw [← hrec];rfl,slots,?_,by rw [← hrec],by rw [← hrec];exact hx,by rw [← hrec];exact hy,nt,by rw [← hrec];exact hnt,by rw [← hrec];exact ha,by rw [← hrec];exact hb⟩;have:=(hst1.env hen).mono (n:=m1.nm ι1) hext (Mem.ah hlaid.has hext);rw [← hrec];exact this
 have hst:=hst1.trans hst2;have hlid:((ι1.upd m1.nx ⟨w1.heap.size,0,0,none⟩) m1.nx).b=w1.heap.size:=by rw [K4.Q8]
 generalize hι2:ι1.upd m1.nx ⟨w1.heap.size,0,0,none⟩=ι2 at *;generalize hm2:m1.new (.loop .ready none env (ps.toList.map λt=>idxOf t slots 0) x y)=m2 at *;have hhas:m2.has m1.nx:=hlaid.self;have hv:bnd (Ul cf m2 [.func (.yield m1.nx) [] []] (F9 z [] env)) (λr=>dx r.v (λ_=>none) <| oZ (r.m.get m1.nx) λst pend _ _ _ _=>match st with
   | .busy=>none
   | _=>match pend with
    | none=>nN .normal env (r.m.set m1.nx .dead) k
    | some x=>nN x env (r.m.set m1.nx .dead) k)=some outs:=by rw [← hm2];exact hv
 obtain⟨vs,hvs,hk⟩:=aH hv;obtain⟨d,f,args,hres,hinv,hcall⟩:=Ma (a:=a) hcf hst.rm (by rw [e1];exact (hst.o8 e2).symm) (j3.O6 (Mem.ah hst.has hst.ext) _ e2) hhas hvs;rw [hlid] at hres;refine⟨w1.heap.size,mark,w1.alloc (.loop rec),d,w1.alloc (.loop rec),f,args,w1.alloc (.loop rec),(by rw [← hrec];exact henter fn),hres,λ_ _=>trivial,hinv,(λhc=>by cases hc),aiM (F:=FR r) hcall ?_⟩;rintro e w3 (⟨v,rfl,r0,hr0,ι3,hst3,hlt3,_⟩ | ⟨r0,hr0,x0,ι3,hx0,_⟩)
 case inr=>obtain⟨os,hos,_⟩:=hk r0 hr0;rw [hx0] at hos;cases hos
 obtain⟨os,hos,hsub⟩:=hk r0 hr0;rw [Qk hlt3] at hos;obtain⟨st,pend,env',params',as',bd',hget,hos⟩:=uL hos;obtain⟨L,hL,hLok⟩:=hst3.rm.blk m1.nx _ hget;have hι3:(ι3 m1.nx).b=w1.heap.size:=by rw [hst3.ext _ hhas];exact hlid
 rw [hι3] at hL;have hlim:r0.m.lim<=m1.nx:=by rw [hst3.lim,hst2.lim];exact hst1.rm.limn
 have hbusy:L.state≠.busy:=by rw [hLok.state];intro e;subst e;cases hos
 have hend:=run_endLoop (P:=P) hL hbusy;have hst4:Step P G ι3 r0.m w3 ι3 (r0.m.set m1.nx .dead) (w3.putObj w1.heap.size (.loop {L with state:=.exhausted})):=by refine Step.set hst3.rm hlim hget rfl rfl (o:=.loop {L with state:=.exhausted}) ⟨by rw [hι3];rfl,rfl,rfl,rfl⟩ trivial (by intro _ _ _ h;cases h)
 have hall:=(hst.trans hst3).trans hst4;have hmk:gD ι3 (r0.m.set m1.nx .dead) k (mark++a.defers):=hmarks.step ((hst2.trans hst3).trans hst4);have henv:U7 ι3 ((r0.m.set m1.nx .dead).nm ι3) slots env a.tmps:=hall.env hen;refine⟨L.pending,_,hend,?_⟩;have key:∀j:Option Code,j=pend.map exitCode->(match j with
   | none=>Q .normal {a with defers:=mark++a.defers} (w3.putObj w1.heap.size (.loop {L with state:=.exhausted}))
   | some c=>c.wpIn (FR r) 0 P Q {a with defers:=mark++a.defers} (w3.putObj w1.heap.size (.loop {L with state:=.exhausted}))):=by
  rintro j rfl;cases pend with
  | none=>
   have hos:nN .normal env (r0.m.set m1.nx .dead) k=some os:=by cases st<;>first | exact hos | cases hos
   cases hos;exact hQ _ (hsub _ (J3.2 rfl)) ι3 _ {a with defers:=mark++a.defers} hall henv rfl hmk (bA rfl)
  | some x'=>
   have hos:nN x' env (r0.m.set m1.nx .dead) k=some os:=by cases st<;>first | exact hos | cases hos
   cases hos;exact Gd (hQ _ (hsub _ (J3.2 rfl)) ι3 _ {a with defers:=mark++a.defers} hall henv rfl hmk (bA rfl))
 exact key _ hLok.pending
end
section
variable {P:Program}{G:Mem}
def He (P:Program)(G:Mem)(slots:List Nat)(nt:Nat)(cf:F4)(fuel:Nat)(r:Option Nat)(c:Code)(ac:U6):Prop:=
 ∀(Q:Exit->Act->World->Prop) (ir:Option Nat) (env:T j3) (m:Mem) (k:List Mk) (ι:K4) (w:World) (a:Act) (outs:List Out),
  RM P G ι m w.heap->U7 ι (m.nm ι) slots env a.tmps->nt<=a.tmps.size->gD ι m k a.defers->RS ι m ir r->vK ac cf fuel ir env m k=some outs->
  (∀o∈outs,∀ι' w' a',Step P G ι m w ι' o.m w'->U7 ι' (o.m.nm ι') slots o.env a'.tmps->a'.tmps.size=a.tmps.size->gD ι' o.m o.marks a'.defers->RQ ι' o->Q (Qn ι' o) a' w')->
  c.wpIn (FR r) 0 P Q a w
def kR (P:Program)(G:Mem)(slots:List Nat)(nt:Nat)(cf:F4)(r:Option Nat):Prop:=
 ∀(id:Nat) (ops:Array Oper) (ac:U6) (fuel:Nat),Q7 P slots (.region id ops true)=some ac->tmpsIn nt (.region id ops true)=true->He P G slots nt cf fuel r (.region id ops true) ac
theorem OM {slots:List Nat}{id:Nat}{ops:Array Oper}{ac:U6}(h:Q7 P slots (.region id ops true)=some ac):(∃n l,ac=.dreg n l)∨∃n l t,ac=.dreg2 n l t:=by simp only [Q7] at h;split at h;unfold Dn at h;split at h;split at h;unfold Ck at h;split at h;split at h;cases h;exact .inr ⟨_,_,_,rfl⟩;cases h;cases h;cases h;cases h;unfold yC at h;split at h;cases h;split at h;cases h;exact .inl ⟨_,_,rfl⟩;cases h
theorem iP {nt id:Nat}{ops:Array Oper}{d:Bool}(h:tmpsIn nt (.region id ops d)=true)(i:Nat)(o:Oper)(t:Tmp)(ho:ops[i]?=some o)(ht:o.dst=some t):t<nt:=by simp only [tmpsIn,ace] at h;have:=h o (by simpa using Array.mem_of_getElem? ho);rw [ht] at this;exact Eq.mp Y8 this
theorem rT {β:Type}{x:bK}{p:Option β}{q:Nat->Option β}{s:Option β}{r:β}(h:(bK.rec p q s x:Option β)=some r):
  (x=.normal∧p=some r)∨(∃id,x=.exit id∧q id=some r)∨(x=.ret∧s=some r):=by
 cases x with
 | normal=>exact .inl ⟨rfl,h⟩
 | exit id=>exact .inr (.inl ⟨id,rfl,h⟩)
 | ret=>exact .inr (.inr ⟨rfl,h⟩)
theorem rU {slots:List Nat}{nt:Nat}{cf:F4}(hcf:mU P G cf)(fuel:Nat){r:Option Nat}(hdraw:kR P G slots nt cf r):
  ∀(c:Code) (ac:U6),Q7 P slots c=some ac->tmpsIn nt c=true->He P G slots nt cf fuel r c ac:=by
 intro c;induction c with
 | skip=>intro ac hc _ Q ir env m k ι w a outs hm hen hnt hmk hir hv hQ;simp only [Q7,J6] at hc;subst hc;have hv:nN .normal env m k=some outs:=hv;cases hv;exact wpIn_skip (hQ _ (J3.2 rfl) ι w a (Step.refl hm) hen rfl hmk (bA rfl))
 | exit id=>intro ac hc _ Q ir env m k ι w a outs hm hen hnt hmk hir hv hQ;simp only [Q7,J6] at hc;subst hc;have hv:nN (.exit id) env m k=some outs:=hv;cases hv;exact wpIn_exit (hQ _ (J3.2 rfl) ι w a (Step.refl hm) hen rfl hmk (bA rfl))
 | ret=>intro ac hc _ Q ir env m k ι w a outs hm hen hnt hmk hir hv hQ;simp only [Q7,J6] at hc;subst hc;have hv:nN .ret env m k=some outs:=hv;cases hv;exact wpIn_ret (hQ _ (J3.2 rfl) ι w a (Step.refl hm) hen rfl hmk (bA rfl))
 | region id ops d=>
  intro ac hc hti Q ir env m k ι w a outs hm hen hnt hmk hir hv hQ;cases d with
  | false=>
   simp only [Q7] at hc;split at hc;rename_i l hl;cases hc;have hbind:∃es,bC l cf [] env m=some es∧(jd l=true->r=none)∧∀e∈es,∃os,gM k e=some os∧∀o∈os,o∈outs:=by
    cases hd:jd l with
    | true=>
     have hv:(bif jd l then Dj (bC l) else j6 (bC (lZ [] l))) cf fuel ir env m k=some outs:=hv;rw [hd,cond_true] at hv;cases ir with
     | some l'=>cases hv
     | none=>have hv:bnd (bC l cf [] env m) (gM k)=some outs:=hv;obtain⟨es,hes,hk⟩:=aH hv;exact⟨es,hes,λ_=>hir.1,hk⟩
    | false=>have hv:(bif jd l then Dj (bC l) else j6 (bC (lZ [] l))) cf fuel ir env m k=some outs:=hv;rw [hd,cond_false] at hv;have hv:bnd (bC (lZ [] l) cf [] env m) (gM k)=some outs:=hv;obtain⟨es,hes,hk⟩:=aH hv;exact⟨es,JC cf l [] [] [] env m es hd (λk=>by simp [F9,D8]) (λj hj=>by cases hj) hes,λh=>(by cases h),hk⟩
   obtain⟨es,hes,hdr,hk⟩:=hbind;refine wpIn_region (RJ hcf (iP hti) _ _ _ hl hdr [] env m ι w a es hm hnt (St.start hm hen) hes ?_);intro e he ι' w' a' hst hen' hdef hmkok hsz hpx;obtain⟨os,hos,hsub⟩:=hk e he;obtain⟨env₁,m₁,px₁,mk₁⟩:=e;have hmk':gD ι' m₁ (mk₁++k) a'.defers:=by refine⟨by rw [hdef,(hmk.step hst).1,ae1],λx hx=>?_⟩;rcases aaF.1 hx with hx | hx;exact hmkok x hx;exact (hmk.step hst).2 x hx
   cases px₁ with
   | none=>have hos:nN .normal env₁ m₁ (aX mk₁ k)=some os:=hos;rw [V5] at hos;cases hos;exact hQ _ (hsub _ (J3.2 rfl)) ι' w' a' hst hen' hsz hmk' (bA rfl)
   | some x=>have hos:some [(⟨.ret,env₁,m₁,aX mk₁ k,some x⟩:Out)]=some os:=hos;rw [V5] at hos;cases hos;exact hQ _ (hsub _ (J3.2 rfl)) ι' w' a' hst hen' hsz hmk' (λy hy=>by cases hy;exact⟨rfl,hpx _ rfl⟩)
   cases hc
  | true=>exact hdraw id ops ac fuel hc hti Q ir env m k ι w a outs hm hen hnt hmk hir hv hQ
 | seq x y ihx ihy=>
  intro ac hc hti Q ir env m k ι w a outs hm hen hnt hmk hir hv hQ;simp only [tmpsIn,U9] at hti;simp only [Q7] at hc;split at hc;rename_i cx cy hx hy;cases hc;have hv:bnd (vK cx cf fuel ir env m k) (λo=>bK.rec (vK cy cf fuel ir o.env o.m o.marks) (λ_=>some [o]) (some [o]) o.x)=some outs:=hv;obtain⟨os,hos,hk⟩:=aH hv;refine wpIn_seq (ihx cx hx hti.1 _ ir env m k ι w a os hm hen hnt hmk hir hos ?_);intro o ho ι' w' a' hst hen' hsz hmk' hpv;obtain⟨os',hos',hsub⟩:=hk o ho;obtain⟨x₀,env₀,m₀,k₀,pv₀⟩:=o;rcases rT hos' with⟨h1,h2⟩ | ⟨id,h1,h2⟩ | ⟨h1,h2⟩;obtain rfl:x₀=.normal:=h1;obtain rfl:pv₀=none:=lD hpv (by intro e;cases e);refine ihy cy hy hti.2 Q ir env₀ m₀ k₀ ι' w' a' os' hst.rm hen' (by rw [hsz];exact hnt) hmk' (hir.step hst) h2 ?_;intro o2 ho2 ι'' w'' a'' hst' hen'' hsz' hmk'' hpv';exact hQ o2 (hsub _ ho2) ι'' w'' a'' (hst.trans hst') hen'' (hsz'.trans hsz) hmk'' hpv';obtain rfl:x₀=.exit id:=h1;obtain rfl:pv₀=none:=lD hpv (by intro e;cases e);cases h2;exact hQ _ (hsub _ (J3.2 rfl)) ι' w' a' hst hen' hsz hmk' (bA rfl);obtain rfl:x₀=.ret:=h1;cases h2;have:=hQ _ (hsub _ (J3.2 rfl)) ι' w' a' hst hen' hsz hmk' hpv;cases pv₀<;>exact this
  cases hc
 | cond c x y ihx ihy=>
  intro ac hc hti Q ir env m k ι w a outs hm hen hnt hmk hir hv hQ;simp only [tmpsIn,U9] at hti;simp only [Q7] at hc;split at hc;rename_i z cx cy hz hx hy;cases hc;obtain⟨t,h1,hv⟩:=qD hv;obtain⟨e1,_⟩:=A8 (St.start hm hen) hz;have h1:F9 z [] env=.bool t:=h1;refine wpIn_cond (t:=t) (by rw [e1,h1];rfl) ?_;cases t with
  | true=>exact ihx cx hx hti.1 Q ir env m k ι w a outs hm hen hnt hmk hir hv hQ
  | false=>exact ihy cy hy hti.2 Q ir env m k ι w a outs hm hen hnt hmk hir hv hQ
  cases hc
 | block id x ihx=>
  intro ac hc hti Q ir env m k ι w a outs hm hen hnt hmk hir hv hQ;simp only [tmpsIn] at hti;simp only [Q7] at hc;split at hc;rename_i cx hx;cases hc;have hv:bnd (vK cx cf fuel ir env m k) (λo=>bK.rec (some [o]) (λid'=>bi (Nat.beq id id') (nN .normal o.env o.m o.marks) (some [o])) (some [o]) o.x)=some outs:=hv;obtain⟨os,hos,hk⟩:=aH hv;refine wpIn_block (ihx cx hx hti _ ir env m k ι w a os hm hen hnt hmk hir hos ?_);intro o ho ι' w' a' hst hen' hsz hmk' hpv;obtain⟨os',hos',hsub⟩:=hk o ho;obtain⟨x₀,env₀,m₀,k₀,pv₀⟩:=o;rcases rT hos' with⟨h1,h2⟩ | ⟨id',h1,h2⟩ | ⟨h1,h2⟩;obtain rfl:x₀=.normal:=h1;obtain rfl:pv₀=none:=lD hpv (by intro e;cases e);cases h2;exact hQ _ (hsub _ (J3.2 rfl)) ι' w' a' hst hen' hsz hmk' (bA rfl);obtain rfl:x₀=.exit id':=h1;obtain rfl:pv₀=none:=lD hpv (by intro e;cases e);show Exit.inBlock id Q (.exit id') a' w';simp only [Exit.inBlock];rw [uz] at h2;split at h2;rename_i he;subst he;cases h2;rw [if_pos rfl];exact hQ _ (hsub _ (J3.2 rfl)) ι' w' a' hst hen' hsz hmk' (bA rfl);rename_i he;cases h2;rw [if_neg (λe=>he e.symm)];exact hQ _ (hsub _ (J3.2 rfl)) ι' w' a' hst hen' hsz hmk' (bA rfl);obtain rfl:x₀=.ret:=h1;cases h2;have:=hQ _ (hsub _ (J3.2 rfl)) ι' w' a' hst hen' hsz hmk' hpv;cases pv₀<;>exact this
  cases hc
 | loop x ihx=>
  intro ac hc hti Q ir env m k ι w a outs hm hen hnt hmk hir hv hQ;simp only [tmpsIn] at hti;simp only [Q7] at hc;split at hc;rename_i cx hx;cases hc;have hv:I4 (λenv m k=>vK cx cf fuel ir env m k) fuel env m k=some outs:=hv;have key:∀(j:Nat) (env:T j3) (m:Mem) (k:List Mk) (ι:K4) (w:World) (a:Act) (outs:List Out),RM P G ι m w.heap->U7 ι (m.nm ι) slots env a.tmps->nt<=a.tmps.size->gD ι m k a.defers->RS ι m ir r->
    I4 (λenv m k=>vK cx cf fuel ir env m k) j env m k=some outs->
    (∀o∈outs,∀ι' w' a',Step P G ι m w ι' o.m w'->U7 ι' (o.m.nm ι') slots o.env a'.tmps->a'.tmps.size=a.tmps.size->gD ι' o.m o.marks a'.defers->RQ ι' o->Q (Qn ι' o) a' w')->
    Code.roundsIn (FR r) 0 P x Q j a w:=by
   intro j;induction j with
   | zero=>intro env m k ι w a outs _ _ _ _ _ hv;cases hv
   | succ j ih=>intro env m k ι w a outs hm hen hnt hmk hir hv hQ;have hv:bnd (vK cx cf fuel ir env m k) (λo=>bK.rec (I4 (λenv m k=>vK cx cf fuel ir env m k) j o.env o.m o.marks) (λ_=>some [o]) (some [o]) o.x)=some outs:=hv;obtain⟨os,hos,hk⟩:=aH hv;rw [roundsIn_succ];refine ihx cx hx hti _ ir env m k ι w a os hm hen hnt hmk hir hos ?_;intro o ho ι' w' a' hst hen' hsz hmk' hpv;obtain⟨os',hos',hsub⟩:=hk o ho;obtain⟨x₀,env₀,m₀,k₀,pv₀⟩:=o;rcases rT hos' with⟨h1,h2⟩ | ⟨id',h1,h2⟩ | ⟨h1,h2⟩;obtain rfl:x₀=.normal:=h1;obtain rfl:pv₀=none:=lD hpv (by intro e;cases e);refine ih env₀ m₀ k₀ ι' w' a' os' hst.rm hen' (by rw [hsz];exact hnt) hmk' (hir.step hst) h2 ?_;intro o2 ho2 ι'' w'' a'' hst' hen'' hsz' hmk'' hpv';exact hQ o2 (hsub _ ho2) ι'' w'' a'' (hst.trans hst') hen'' (hsz'.trans hsz) hmk'' hpv';obtain rfl:x₀=.exit id':=h1;obtain rfl:pv₀=none:=lD hpv (by intro e;cases e);cases h2;exact hQ _ (hsub _ (J3.2 rfl)) ι' w' a' hst hen' hsz hmk' (bA rfl);obtain rfl:x₀=.ret:=h1;cases h2;have:=hQ _ (hsub _ (J3.2 rfl)) ι' w' a' hst hen' hsz hmk' hpv;cases pv₀<;>exact this
  exact wpIn_loop_rounds fuel (key fuel env m k ι w a outs hm hen hnt hmk hir hv hQ);cases hc
 | rangeFunc g ps x y ihx ihy=>
  intro ac hc hti Q ir env m k ι w a outs hm hen hnt hmk hir hv hQ;simp only [tmpsIn,U9] at hti;simp only [Q7] at hc;split at hc;rename_i z cx cy hz hx hy;cases hc;cases ir with
  | none=>
   obtain rfl:r=none:=hir.1;have hv:Oi cf (F9 z [] env) (ps.toList.map λt=>idxOf t slots 0) cx cy env (m.new .deferred) (.c m.nx::k)=some outs:=hv;have hlaid:=Laid.new hm.ok hm.limn .deferred rfl;have hst1:Step P G ι m w (ι.upd m.nx ⟨w.heap.size,0,0,none⟩) (m.new .deferred) (w.alloc (.deferred (some []))):=
    Step.lay (w':=w.alloc (.deferred (some []))) (l:=⟨w.heap.size,0,0,none⟩) hm hlaid (o:=.deferred (some [])) ⟨rfl,rfl,rfl,rfl⟩ rfl rfl (by show (w.heap.push _)[w.heap.size]?=_;exact dh) (by intro _ _ _ h;cases h)
   have hsz1:(w.alloc (.deferred (some []))).heap.size=w.heap.size+1:=by show (w.heap.push _).size=_;simp
   refine Mc hcf hz hx hy hti.1 hti.2 (mark:=[{target:=.collected w.heap.size,args:=#[]}]) (D:=w.heap.size) hm hst1 hen hnt (λfn=>?_) ⟨?_,?_⟩ hv hQ;rw [run_enterLoop_outer,hsz1];rw [(hmk.step hst1).1];simp [sM];intro x hx;rcases Z7.1 hx with rfl | hx;exact⟨hlaid.self,hm.limn⟩;exact (hmk.step hst1).2 x hx
  | some l=>obtain rfl:r=some (ι l).b:=hir.1;have hv:oZ (m.get l) (λ_ _ _ _ _ _=>Oi cf (F9 z [] env) (ps.toList.map λt=>idxOf t slots 0) cx cy env m k)=some outs:=hv;obtain⟨st,pend,env',params',as',bd',hget,hv⟩:=uL hv;obtain⟨L,hL,_⟩:=hm.blk l _ hget;refine Mc hcf hz hx hy hti.1 hti.2 (mark:=[]) (D:=L.defers) hm (Step.refl hm) hen hnt (λfn=>?_) (by simpa using hmk) hv hQ;exact run_enterLoop_inner hL fn a.tmps ps x y
  cases hc
 | scope x ihx=>intro ac hc;simp only [Q7] at hc;cases hc
 | label l=>intro ac hc;simp only [Q7] at hc;cases hc
 | goto l=>intro ac hc;simp only [Q7] at hc;cases hc
 | refuse s=>intro ac hc _ Q ir env m k ι w a outs hm hen hnt hmk hir hv hQ;simp only [Q7,J6] at hc;subst hc;have hv:(none:Option (List Out))=some outs:=hv;cases hv
end
section
variable {P:Program}{G:Mem}{ι:K4}{n:Nm}{m:Mem}{w:World}{slots:List Nat}
theorem Gf (vs:List j3)(env:T j3):cK [] vs env=match vs with | []=>some env | _ :: _=>none:=by cases vs<;>rfl
theorem Eh (j:Option Nat)(js:List (Option Nat))(vs:List j3)(env:T j3):
  cK (j::js) vs env=match vs with | []=>none | v::vs=>cK js vs (bW j v env):=by cases vs<;>rfl
theorem sN:∀(ps:List Nat) (vs:List j3) (env env1:T j3) (tmps:Array Value),U7 ι n slots env tmps->aS n vs->cK (ps.map λt=>idxOf t slots 0) vs env=some env1->
  vs.length=ps.length∧U7 ι n slots env1 ((ps.zip (y7 ι vs)).foldl (λt (p,v)=>t.setIfInBounds p v) tmps)∧((ps.zip (y7 ι vs)).foldl (λt (p,v)=>t.setIfInBounds p v) tmps).size=tmps.size:=by
 intro ps;induction ps with
 | nil=>
  intro vs env env1 tmps h hv hs;rw [List.map_nil,Gf] at hs;cases vs with
  | nil=>cases hs;exact⟨rfl,h,rfl⟩
  | cons v vs=>cases hs
 | cons p ps ih=>
  intro vs env env1 tmps h hv hs;rw [aaZ,Eh] at hs;cases vs with
  | nil=>cases hs
  | cons v vs=>have h1:=h.put (some p) hv.1;obtain⟨g1,g2,g3⟩:=ih vs _ env1 _ h1 hv.2 hs;exact⟨by simp [g1],g2,by rw [show ((p::ps).zip (y7 ι (v::vs))).foldl (λt (p,v)=>t.setIfInBounds p v) tmps=(ps.zip (y7 ι vs)).foldl (λt (p,v)=>t.setIfInBounds p v) (tmps.setIfInBounds p (o8 ι v)) from rfl,g3];simp⟩
theorem RU (ps:Array Nat)(vs:List Value)(tmps:Array Value):
  (ps.zip vs.toArray).foldl (λt (p,v)=>t.setIfInBounds p v) tmps=(ps.toList.zip vs).foldl (λt (p,v)=>t.setIfInBounds p v) tmps:=by
 rw [← Array.foldl_toList,Array.toList_zip]
theorem OO {ι':K4}{n':Nm}{L:Loop}{st st':LoopState}{pend pend':Option bK}{env:T j3}{params:List (Option Nat)}{as bd:U6}(h:xw P ι n L st pend env params as bd)(hi:∀i,n i->ι' i=ι i)(hn:n.le n'):
  xw P ι' n' {L with state:=st',pending:=pend'.map exitCode} st' pend' env params as bd:=by
 obtain⟨_,_,h3⟩:=h.mono hi hn;exact⟨rfl,rfl,h3⟩
theorem step_loop {ι:K4}{m:Mem}{w:World}(hm:RM P G ι m w.heap){l:Nat}(hl:m.lim<=l){st:LoopState}{pend:Option bK}{env:T j3}{params:List (Option Nat)}{as bd:U6}
  (hg:m.get l=some (.loop st pend env params as bd)) {L:Loop} (hL:w.heap[(ι l).b]?=some (.loop L)) (hok:xw P ι (m.nm ι) L st pend env params as bd) (st':LoopState) (pend':Option bK):
  Step P G ι m w ι (m.set l (.loop st' pend' env params as bd)) (w.putObj (ι l).b (.loop {L with state:=st',pending:=pend'.map exitCode})):=by
 refine Step.set hm hl hg rfl rfl (o:=.loop {L with state:=st',pending:=pend'.map exitCode}) ⟨rfl,rfl,rfl,rfl⟩ ?_ (by intro _ _ _ h;cases h);exact⟨_,gu hL,OO hok (λ_ _=>rfl) (Mem.ah (λi hi=>Mem.mO hm.ok hg rfl i hi) λ_ _=>rfl)⟩
theorem Me {cf:F4}(hcf:mU P G cf)(fuel:Nat)(hdraw:∀slots nt r,kR P G slots nt cf r){l:Nat}{args:List j3}{outs:List VM}(h:Ji cf fuel l args m=some outs)(hm:RM P G ι m w.heap)(hargs:aS (m.nm ι) args):
  ∃L:Loop,w.heap[(ι l).b]?=some (.loop L)∧args.length=L.params.size∧
   RoundIn Fence.wide 0 P (ι l).b L.fn ((L.params.zip (y7 ι args).toArray).foldl (λt (p,v)=>t.setIfInBounds p v) L.tmps) L.assign L.body w (P8 P G ι m w outs):=by
 obtain⟨hlim,h⟩:=jI h;have hlim:=jA hlim;obtain⟨st,pend,env,params,as,bd,hget,h⟩:=uL h;have hst:st=.ready∧pend=none∧ob (cK params args env) (λenv1=>bnd (vK as cf fuel (some l) env1 m []) λo=>match o.x,o.marks with
   | .normal,[]=>oZ (o.m.get l) λst2 pend2 env2 params2 assign2 body2=>match st2,pend2 with
    | .ready,none=>bnd (vK bd cf fuel (some l) o.env (o.m.set l (.loop .busy none env2 params2 assign2 body2)) []) (roundEnd l)
    | _,_=>none
   | _,_=>none)=some outs:=by
  cases st<;>cases pend<;>first | exact⟨rfl,rfl,h⟩ | cases h
 obtain⟨rfl,rfl,h⟩:=hst;obtain⟨env1,hp,h⟩:=C8 h;obtain⟨os,hos,hk⟩:=aH h;obtain⟨L,hL,hLs,hLp,slots,hLe,hLps,hLa,hLb,nt,hnt,hta,htb⟩:=hm.blk l _ hget;rw [hLps] at hp;obtain⟨g1,g2,g3⟩:=sN L.params.toList args env env1 L.tmps hLe hargs hp;refine⟨L,hL,by rw [g1];simp,?_⟩;rw [RU];have hhas:m.has l:=⟨_,hget,rfl⟩;have hir:RS ι m (some l) (some (ι l).b):=⟨rfl,λl' hl'=>by cases hl';exact hhas⟩;refine roundIn_of_wpIn (F:=Fence.wide) trivial ?_;refine rU hcf fuel (hdraw slots nt (some (ι l).b)) L.assign as hLa hta _ (some l) env1 m [] ι w {tmps:=(L.params.toList.zip (y7 ι args)).foldl (λt (p,v)=>t.setIfInBounds p v) L.tmps,defers:=[]} os hm g2 (by rw [g3];exact hnt)
  ⟨rfl,λ_ h=>by cases h⟩ hir hos ?_
 intro o ho ι1 w1 a1 hst1 hen1 hsz1 hmk1 hpv1;obtain⟨os',hos',hsub⟩:=hk o ho;obtain⟨x₀,env₀,m₀,k₀,pv₀⟩:=o
 have hx:x₀=.normal∧k₀=[]∧oZ (m₀.get l) (λst2 pend2 env2 params2 assign2 body2=>match st2,pend2 with
    | .ready,none=>bnd (vK bd cf fuel (some l) env₀ (m₀.set l (.loop .busy none env2 params2 assign2 body2)) []) (roundEnd l)
    | _,_=>none)=some os':=by
  cases x₀<;>cases k₀<;>first | exact⟨rfl,rfl,hos'⟩ | cases hos'
 obtain⟨rfl,rfl,hos'⟩:=hx;obtain rfl:pv₀=none:=lD hpv1 (by intro e;cases e);obtain⟨st2,pend2,env2,params2,as2,bd2,hget2,hos'⟩:=uL hos';have hst2:st2=.ready∧pend2=none∧bnd (vK bd cf fuel (some l) env₀ (m₀.set l (.loop .busy none env2 params2 as2 bd2)) []) (roundEnd l)=some os':=by cases st2<;>cases pend2<;>first | exact⟨rfl,rfl,hos'⟩ | cases hos'
 obtain⟨rfl,rfl,hos'⟩:=hst2;obtain⟨os2,hos2,hk2⟩:=aH hos';obtain⟨L2,hL2,hok2⟩:=hst1.rm.blk l _ hget2;have hlim0:m₀.lim<=l:=by rw [hst1.lim];exact hlim
 have hι1:(ι1 l).b=(ι l).b:=by rw [hst1.ext l hhas]
 have hbeg:=run_beginRound (P:=P) hL2 hok2.state;have hst2:=step_loop hst1.rm hlim0 hget2 hL2 hok2 .busy none;rw [hι1] at hbeg;rw [hι1,show ({L2 with state:=.busy,pending:=(none:Option bK).map exitCode}:Loop)={L2 with state:=.busy} from by rw [← hok2.pending]] at hst2;refine⟨_,hbeg,?_⟩;have hst12:=hst1.trans hst2;refine rU hcf fuel (hdraw slots nt (some (ι l).b)) L.body bd hLb htb _ (some l) env₀ _ [] ι1 _ a1 os2 hst2.rm (hst2.env hen1) (by rw [hsz1];show nt<=Array.size _;rw [g3];exact hnt)
  (hmk1.step hst2) (hir.step hst12) hos2 ?_
 intro o3 ho3 ι3 w3 a3 hst3 hen3 hsz3 hmk3 hpv3;obtain⟨os3,hos3,hsub3⟩:=hk2 o3 ho3;obtain⟨x3,env3,m3,k3,pv3⟩:=o3;have hall:=hst12.trans hst3;have hk3:k3=[]∧pv3=none∧oZ (m3.get l) (λst pend env params assign body=>match st,pend with
  | .busy,none=>match x3 with
   | .normal=>one (.bool true) (m3.set l (.loop .ready none env params assign body))
   | x=>one (.bool false) (m3.set l (.loop .done (some x) env params assign body))
  | _,_=>none)=some os3:=by
  cases k3 with
  | nil=>
   cases pv3 with
   | none=>exact⟨rfl,rfl,hos3⟩
   | some=>cases hos3
  | cons=>cases pv3<;>cases hos3
 obtain⟨rfl,rfl,hos3⟩:=hk3;obtain⟨st4,pend4,env4,params4,as4,bd4,hget4,hos3⟩:=uL hos3;obtain⟨L4,hL4,hok4⟩:=hst3.rm.blk l _ hget4;have hlim3:m3.lim<=l:=by rw [hall.lim];exact hlim
 have hι3:(ι3 l).b=(ι l).b:=by rw [hall.ext l hhas]
 have fin:∀(b:Bool) (pend':Option bK),os3=[⟨.bool b,m3.set l (.loop (if b then .ready else .done) pend' env4 params4 as4 bd4)⟩]->(pend'.map exitCode).isNone=b->
   ∃v w',(Instr.endRound (ι l).b (pend'.map exitCode)).run P w3=.ok v w'∧P8 P G ι m w outs (.returned v) w':=by
  intro b pend' h1 h2;have hend:=run_endRound (P:=P) (pend'.map exitCode) hL4;have hst4:=step_loop hst3.rm hlim3 hget4 hL4 hok4 (if b then .ready else .done) pend';rw [hι3] at hend hst4;rw [h2] at hend;refine⟨_,_,hend,.inl ⟨_,rfl,⟨.bool b,m3.set l (.loop (if b then .ready else .done) pend' env4 params4 as4 bd4)⟩,hsub _ ?_,ι3,hall.trans hst4,trivial,by simp [o8]⟩⟩;exact hsub3 _ (by rw [h1];exact J3.2 rfl)
 have fin':∀(b:Bool) (pend':Option bK),(st4=.busy∧pend4=none∧one (.bool b) (m3.set l (.loop (if b then .ready else .done) pend' env4 params4 as4 bd4))=some os3)->(pend'.map exitCode).isNone=b->
   ∃v w',(Instr.endRound (ι l).b (pend'.map exitCode)).run P w3=.ok v w'∧P8 P G ι m w outs (.returned v) w':=by
  rintro b pend' ⟨_,_,h⟩ h2;exact fin b pend' (by cases h;rfl) h2
 cases x3 with
 | normal=>exact fin' true none (by cases st4<;>cases pend4<;>first | exact⟨rfl,rfl,hos3⟩ | cases hos3) rfl
 | exit id=>exact fin' false (some (.exit id)) (by cases st4<;>cases pend4<;>first | exact⟨rfl,rfl,hos3⟩ | cases hos3) rfl
 | ret=>exact fin' false (some .ret) (by cases st4<;>cases pend4<;>first | exact⟨rfl,rfl,hos3⟩ | cases hos3) rfl
theorem RV {r:ResultVar}{l:List ResultVar}{rs:List oO}(h:BU P slots (r::l)=some rs):
  ∃x rs',rs=x::rs'∧BU P slots l=some rs'∧((∃t j,r=.tmp t∧idxOf t slots 0=some j∧x=.tmp j)∨∃t ty j s,r=.cell t ty∧idxOf t slots 0=some j∧partT P ty=some s∧x=.cell j s):=by
 cases r with
 | tmp t=>simp only [BU] at h;split at h;cases h;exact⟨_,_,rfl,by assumption,.inl ⟨t,_,rfl,by assumption,rfl⟩⟩;cases h
 | cell t ty=>simp only [BU] at h;split at h;cases h;exact⟨_,_,rfl,by assumption,.inr ⟨t,ty,_,_,rfl,by assumption,by assumption,rfl⟩⟩;cases h
theorem JD (r:oO)(rs:List oO)(env:T j3)(m:Mem):results (r::rs) env m=ob (match r with
  | .tmp j=>T.get env j
  | .cell j size=>ob (T.get env j) λp=>gK p λid off=>Q9 (m.get id) λrs n rows=>match size with
   | none=>cell1 rs n rows off
   | some k=>ob (eU rs n rows off k) λl=>some (.agg l)) λv=>ob (results rs env m) λl=>some (v::l):=rfl
def XI (tmps:Array Value):ResultVar->Sem Value
 | .tmp t=>pure (tmps.getD t undef)
 | .cell a t=>do loadVar t (← asAddr (tmps.getD a undef))
theorem Ei (fn:Func)(tmps:Array Value):Go.results fn tmps=(do
  let vs ← fn.results.mapM (XI tmps)
  pure (if h:vs.size=1 then vs[0] else .tuple vs)):=by
 unfold Go.results;congr 1
theorem OP (ad:Addr):asAddr (.pointer (some ad))=pure ad:=rfl
theorem wT (hm:RM P G ι m w.heap){env:T j3}{tmps:Array Value}(hen:U7 ι (m.nm ι) slots env tmps):∀(l:List ResultVar) (rs:List oO),BU P slots l=some rs->∀vs,results rs env m=some vs->
  aS (m.nm ι) vs∧(l.mapM (XI tmps):Sem (List Value)).run P w=.ok (y7 ι vs) w:=by
 intro l;induction l with
 | nil=>intro rs hc vs hv;simp only [BU,J6] at hc;subst hc;have hv:some []=some vs:=hv;cases hv;exact⟨trivial,by simp [y7]⟩
 | cons r l ih=>
  intro rs hc vs hv;obtain⟨x,rs',rfl,hc',hx⟩:=RV hc;rw [JD] at hv;obtain⟨v,h1,hv⟩:=C8 hv;obtain⟨vs',h2,hv⟩:=C8 hv;cases hv;obtain⟨g1,g2⟩:=ih rs' hc' vs' h2;rcases hx with⟨t,j,rfl,hj,rfl⟩ | ⟨t,ty,j,s,rfl,hj,hs,rfl⟩;obtain⟨_,u,e1,e2,e3⟩:=hen.val t j hj;have h1:env.get j=some v:=h1;rw [h1] at e1;cases e1;refine⟨⟨e2,g1⟩,?_⟩;simp only [ajd,XI,Y1,aat,J8,g2,e3,y7];obtain⟨p,h1,h3⟩:=C8 h1;obtain⟨id,off,rfl,h3⟩:=dV h3;obtain⟨_,u,e1,e2,e3⟩:=hen.val t j hj;rw [h1] at e1;cases e1;obtain⟨q1,q2⟩:=wN hs hm h3;refine⟨⟨q2,g1⟩,?_⟩;have e4:tmps.getD t undef=.pointer (some (ι.at id off)):=by rw [e3];simp [o8]
  simp only [ajd,XI,Y1,aat,J8,g2,e4,y7,OP,q1]
theorem Hf (l:List j3):o8 ι (result l)=(if h:(y7 ι l).toArray.size=1 then (y7 ι l).toArray[0] else .tuple (y7 ι l).toArray):=by
 match l with
 | []=>simp [result,o8,y7]
 | [v]=>simp [result,y7]
 | v::u::l=>simp [result,o8,y7]
theorem RX {l:List j3}(h:aS n l):(result l).lt n:=by
 match l with
 | []=>exact trivial
 | [v]=>exact h.1
 | v::u::l=>exact h
theorem XJ {β:Type}{b:Option O9}{k:Option β}{r:β}(h:Xw b k=some r):b=some .deferred∧k=some r:=by unfold Xw at h;split at h;exact⟨rfl,h⟩;cases h
def xK (ι:K4):Option j3->FrameMode
 | none=>.returning
 | some x=>.panicking [{v:=o8 ι x,recovered:=false}]
theorem UR {ι:K4}{md:Option j3}:xK ι md≠.run:=by cases md<;>simp [xK]
def Am (ι:K4)(m:Mem)(md:Option j3):Prop:=∀x,md=some x->x.lt (m.nm ι)
theorem Am.step {ι ι':K4}{m m':Mem}{w w':World}{md:Option j3}(h:Am ι m md)(hst:Step P G ι m w ι' m' w'):Am ι' m' md∧xK ι' md=xK ι md:=by
 refine⟨λx hx=>j3.O6 (Mem.ah hst.has hst.ext) _ (h x hx),?_⟩;cases md with
 | none=>rfl
 | some x=>simp only [xK,hst.o8 (h x rfl)]
def XK (P:Program)(G:Mem)(dcf:jG):Prop:=∀{f:FuncId} {args:List j3} {md:Option j3} {m:Mem} {outs:List (Mem×Option j3)},dcf f args md m=some outs->
 Aj P f∧∀{ι:K4} {w:World},RM P G ι m w.heap->aS (m.nm ι) args->Am ι m md->
  CallsDIn Fence.wide 0 P f (y7 ι args).toArray (xK ι md) w λe u' w'=>∃v,e=.returned v∧∃r∈outs,∃ι',Step P G ι m w ι' r.1 w'∧Am ι' r.1 r.2∧settle u'=xK ι' r.2
theorem Bo {dcf:jG}(hdc:XK P G dcf){fn:Func}{rs:List oO}(hrs:BU P slots fn.results.toList=some rs){ι0:K4}{m0:Mem}{w0:World}{outs:List VM}:
  ∀(k:List Mk) (m:Mem) (ι:K4) (w:World) (env:T j3) (tmps:Array Value) (ds:List Deferred) (md:Option j3) (vs:List VM),
  Step P G ι0 m0 w0 ι m w->U7 ι (m.nm ι) slots env tmps->gD ι m k ds->Am ι m md->Dk dcf (xg rs env) k md m=some vs->(∀v∈vs,v∈outs)->
  LeavesInM Fence.wide 0 P fn tmps (P8 P G ι0 m0 w0 outs) ds (xK ι md) w:=by
 intro k;induction k with
 | nil=>
  intro m ι w env tmps ds md vs hst hen hmk hmd hv hsub;rw [hmk.1];have hv:xg rs env md m=some vs:=hv;show LeavesIn Fence.wide 0 P fn tmps _ [] (xK ι md) w;cases md with
  | none=>have hv:ob (results rs env m) (λl=>one (result l) m)=some vs:=hv;obtain⟨l,h2,hv⟩:=C8 hv;cases hv;obtain⟨g1,g2⟩:=wT hst.rm hen _ rs hrs l h2;refine⟨o8 ι (result l),?_,.inl ⟨_,rfl,⟨result l,m⟩,hsub _ (J3.2 rfl),ι,hst,RX g1,rfl⟩⟩;rw [Hf,Ei,aiK];simp only [Y1,map_eq_pure_bind,bind_assoc,pure_bind];rw [g2];simp
  | some x=>have hv:some [(⟨.mZ x,m⟩:VM)]=some vs:=hv;cases hv;exact .inr ⟨_,hsub _ (J3.2 rfl),x,ι,rfl,hst,hmd x rfl,rfl⟩
 | cons y k ih=>
  intro m ι w env tmps ds md vs hst hen hmk hmd hv hsub;have htail:gD ι m k (k.map (sM ι)):=⟨rfl,λi hi=>hmk.2 i (Z9 _ hi)⟩;have hy:=hmk.2 y (by simp);rw [hmk.1];refine⟨UR,?_⟩;cases y with
  | c id=>
   have hv:Xw (m.get id) (Dk dcf (xg rs env) k md (m.set id .dead))=some vs:=hv;obtain⟨hget,hv⟩:=XJ hv;have hb:w.heap[(ι id).b]?=some (.deferred (some [])):=hst.rm.blk id _ hget;have hst2:Step P G ι m w ι (m.set id .dead) (w.putObj (ι id).b (.deferred none)):=
    Step.set hst.rm hy.2 hget rfl rfl (o:=.deferred none) ⟨rfl,rfl,rfl,rfl⟩ trivial (by intro _ _ _ h;cases h)
   refine .inl ⟨(ι id).b,_,rfl,run_takeDeferred hb,?_⟩;exact ih (m.set id .dead) ι _ env tmps _ md vs (hst.trans hst2) (hst2.env hen) (htail.step hst2) (hmd.step hst2).1 hv hsub
  | d v args=>
   obtain⟨⟨fn',a,b,rfl⟩,hlt,hargs⟩:=hy;have hv:bnd (Um dcf (.func fn' a b) args md m) (λr=>Dk dcf (xg rs env) k r.2 r.1)=some vs:=hv;obtain⟨os,hos,hk⟩:=aH hv;cases fn' with
   | func f=>have hos:dcf f (aX a (aX args b)) md m=some os:=hos;rw [V5,V5] at hos;obtain⟨hf,hcall⟩:=hdc hos;obtain⟨_,ha,hb⟩:=hlt;refine .inr ⟨(λh=>by cases h),.func f,(y7 ι b).toArray,f,(y7 ι (a++(args++b))).toArray,rfl,?_,(λ_ _=>trivial),?_⟩;show (invoke (.fn (.func f) (y7 ι b).toArray) ((y7 ι a).toArray++(y7 ι args).toArray)).run P w=_;simp [invoke,mV hf,jP];refine CallsDIn.mono (hcall hst.rm (jg ha (jg hargs hb)) hmd) ?_;rintro e u' w' ⟨v,rfl,r,hr,ι',hst',hmd',hset⟩;obtain⟨os',hos',hsub'⟩:=hk r hr;show LeavesInM Fence.wide 0 P fn tmps _ (k.map (sM ι)) (settle u') w';rw [hset];exact ih r.1 ι' w' env tmps _ r.2 os' (hst.trans hst') (hst'.env hen) (htail.step hst') hmd' hos' (λv hv=>hsub v (hsub' v hv))
   | _=>cases hos
structure oU (P:Program)(f:FuncId)(sf:aT):Prop where
 ok:Aj P f
 is:∃(slots:List Nat) (fn:Func) (c:Code) (ac:U6) (rs:List oO),P.funcs[f]?=some fn∧fn.body=some c∧Q7 P slots c=some ac∧BU P slots fn.results.toList=some rs∧
  tmpsIn fn.ntmps c=true∧(∀t∈slots,t<fn.ntmps)∧slots.length<2^60∧
  sf.args=(List.range (fn.params.size+fn.nfree)).map (λt=>idxOf t slots 0)∧sf.nslots=slots.length∧sf.results=rs∧sf.code=vK ac∧∀c',sf.rcode=some c'->c'=ac
theorem UU:∀(l:List Value) (k:Nat) (A:Array Value) (i:Nat),(((List.range' k l.length).zip l).foldl (λt (p,v)=>t.setIfInBounds p v) A).size=A.size∧
  (((List.range' k l.length).zip l).foldl (λt (p,v)=>t.setIfInBounds p v) A)[i]?=if k<=i∧i<k+l.length∧i<A.size then l[i-k]? else A[i]?:=by
 intro l;induction l with
 | nil=>intro k A i;simp;omega
 | cons v l ih=>
  intro k A i;have e:((List.range' k (v::l).length).zip (v::l)).foldl (λt (p,v)=>t.setIfInBounds p v) A=((List.range' (k+1) l.length).zip l).foldl (λt (p,v)=>t.setIfInBounds p v) (A.setIfInBounds k v):=by simp [List.range'_succ]
  obtain⟨h1,h2⟩:=ih (k+1) (A.setIfInBounds k v) i;rw [e];refine⟨by rw [h1];simp,?_⟩;rw [h2];simp only [aiU,abW];by_cases hk:i=k;subst hk;rw [if_neg (by omega)];by_cases hs:i<A.size;rw [if_pos (by omega),Z4 hs];simp;rw [if_neg (by omega),aij (ae7 hs)];rw [Y4 (λe=>hk e.symm)];by_cases hc:k+1<=i∧i<k+1+l.length∧i<A.size;rw [if_pos hc,if_pos (by omega),show i-k=(i-(k+1))+1 from by omega];simp;rw [if_neg hc,if_neg (by omega)]
theorem OQ (vs:List Value)(nt:Nat):((List.range vs.length).zip vs).foldl (λt (p,v)=>t.setIfInBounds p v) (Array.replicate (max vs.length nt) undef)=vs.toArray++Array.replicate (nt-vs.toArray.size) undef:=by apply ae9;intro i;rw [aiu,(UU vs 0 _ i).2];simp only [Array.size_replicate,afN,true_and,aav,aiO];by_cases h:i<vs.length;rw [if_pos (by omega),aiF (by simpa using h)];simp;rw [if_neg (by omega),Array.getElem?_append_right (by simpa using h)];simp only [adZ,afr];by_cases h2:i<max vs.length nt;rw [if_pos h2,if_pos (by omega)];rw [if_neg h2,if_neg (by omega)]
theorem Hg {fn:Func}(h6:∀t∈slots,t<fn.ntmps)(h7:slots.length<2^60){args:List j3}{env:T j3}(hargs:aS (m.nm ι) args)
  (hp:cK ((List.range (fn.params.size+fn.nfree)).map λt=>idxOf t slots 0) args (T.rep .undef slots.length .e 0)=some env):
  args.length=fn.params.size+fn.nfree∧U7 ι (m.nm ι) slots env ((y7 ι args).toArray++Array.replicate (fn.ntmps-(y7 ι args).toArray.size) undef)∧
   fn.ntmps<=((y7 ι args).toArray++Array.replicate (fn.ntmps-(y7 ι args).toArray.size) undef).size:=by
 have henv0:U7 ι (m.nm ι) slots (T.rep .undef slots.length .e 0) (Array.replicate (max (y7 ι args).length fn.ntmps) undef):=by
  refine⟨by have:=T.Oq j3.undef slots.length .e 0 .e;simpa using this,h7,λt j hj=>?_⟩;have hlt:=um hj;have hmem:t∈slots:=by have:=hlt.2.2;exact Y5 this
  have:=h6 t hmem;refine⟨by simp;omega,.undef,?_,trivial,?_⟩;rw [T.Qe _ _ _ _ .e,if_neg (by omega),if_pos hlt.2.1];rw [Xd,adZ];rw [kP];split<;>rfl
 obtain⟨g1,g2,g3⟩:=sN (List.range (fn.params.size+fn.nfree)) args _ env _ henv0 hargs hp;rw [aie] at g1;have hst:=OQ (y7 ι args) fn.ntmps;rw [V6,g1] at hst;rw [V6,g1] at g2 g3;rw [hst] at g2 g3;refine⟨g1,g2,?_⟩;rw [Array.size_append,Array.size_replicate];omega
theorem Mf {cf:F4}(hcf:mU P G cf){dcf:jG}(hdc:XK P G dcf)(fuel:Nat)(hdraw:∀slots nt r,kR P G slots nt cf r){f:FuncId}{sf:aT}(hf:oU P f sf){args:List j3}{outs:List VM}(h:lN cf dcf fuel sf args m=some outs)(hm:RM P G ι m w.heap)(hargs:aS (m.nm ι) args):
  CallsIn Fence.wide 0 P f (y7 ι args).toArray w (P8 P G ι m w outs):=by
 obtain⟨_,slots,fn,c,ac,rs,h1,h2,h3,h4,h5,h6,h7,e1,e2,e3,e4,_⟩:=hf;obtain⟨env,hp,h⟩:=C8 h;obtain⟨os,hos,hk⟩:=aH h;rw [e1,e2] at hp;obtain⟨g1,g2,g3⟩:=Hg h6 h7 hargs hp;refine callsIn_of_wp_marks h1 h2 trivial ?_;rw [e4] at hos;refine rU hcf fuel (hdraw slots fn.ntmps none) c ac h3 h5 _ none env m [] ι w {tmps:=(y7 ι args).toArray++Array.replicate (fn.ntmps-(y7 ι args).toArray.size) undef,defers:=[]} os hm g2 g3 ⟨rfl,λ_ h=>by cases h⟩ ⟨rfl,λ_ h=>by cases h⟩ hos ?_;intro o ho ι' w' a' hst' hen' hsz' hmk' hpv';obtain⟨vs,hvs,hsub⟩:=hk o ho;obtain⟨x₀,env₀,m₀,k₀,pv₀⟩:=o;rw [e3] at hvs;rcases rT hvs with⟨hx,hl⟩ | ⟨id,hx,hl⟩ | ⟨hx,hl⟩;obtain rfl:x₀=.normal:=hx;obtain rfl:pv₀=none:=lD hpv' (by intro e;cases e);exact Bo hdc h4 k₀ m₀ ι' w' env₀ a'.tmps a'.defers none vs hst' hen' hmk' (λx hx=>by cases hx) hl hsub;cases hl;obtain rfl:x₀=.ret:=hx;have:=Bo hdc h4 k₀ m₀ ι' w' env₀ a'.tmps a'.defers pv₀ vs hst' hen' hmk' (λx hx=>(hpv' x hx).2) hl hsub;cases pv₀<;>exact this
end
inductive Ao (ops:Array Oper):Nat->Nat->Prop
 | edge {i:Nat} {o:Oper} {e:Edge}:ops[i]?=some o->e∈o.after->Region.binds .any e=true->Ao ops i e.on
 | more {i:Nat} {o:Oper} {e:Edge} {j:Nat}:ops[i]?=some o->e∈o.after->Region.binds .any e=true->Ao ops e.on j->Ao ops i j
theorem Ao.trans {ops:Array Oper}{i j k:Nat}(h:Ao ops i j)(g:Ao ops j k):Ao ops i k:=by
 induction h with
 | edge h1 h2 h3=>exact .more h1 h2 h3 g
 | more h1 h2 h3 _ ih=>exact .more h1 h2 h3 (ih g)
theorem RY (acc:List Nat)(j:Nat):∀(l:List Edge) (s:Nat),Nat.testBit (l.foldl (λs x=>if Region.binds .any x then s ||| (1 <<< x.on) ||| (acc.getD x.on 0) else s) s) j=true->
  Nat.testBit s j=true∨∃e∈l,Region.binds .any e=true∧(j=e.on∨Nat.testBit (acc.getD e.on 0) j=true):=by
 intro l;induction l with
 | nil=>intro s h;exact .inl h
 | cons e l ih=>
  intro s h;rw [afS] at h;rcases ih _ h with h | ⟨e',h1,h2⟩;cases hb:Region.binds .any e with
  | false=>rw [hb] at h;exact .inl (by simpa using h)
  | true=>rw [hb] at h;simp only [if_true,Nat.testBit_or,afD] at h;rcases h with (h | h) | h;exact .inl h;refine .inr ⟨e,by simp,hb,.inl ?_⟩;rw [Nat.one_shiftLeft,Nat.testBit_two_pow] at h;exact (of_decide_eq_true h).symm;exact .inr ⟨e,by simp,hb,.inr h⟩
  exact .inr ⟨e',Z9 _ h1,h2⟩
theorem fA (ops:Array Oper)(i j:Nat)(h:Om (masks ops.toList) i j=true):Ao ops i j:=by
 have key:∀(l:List Oper) (acc:List Nat),(∀k,k<l.length->ops[acc.length+k]?=l[k]?)->(∀i j,Nat.testBit (acc.getD i 0) j=true->Ao ops i j)->
   ∀i j,Nat.testBit ((l.foldl (λacc o=>acc ++ [bitsOf o.after acc]) acc).getD i 0) j=true->Ao ops i j:=by
  intro l;induction l with
  | nil=>intro acc _ h;exact h
  | cons o l ih=>
   intro acc hops h;rw [afS];refine ih _ (λk hk=>?_) ?_;have:=hops (k+1) (by simpa using hk);simpa [afv,aiQ 1] using this;intro i j hb;by_cases hi:i<acc.length;refine h i j ?_;simpa [Z8,aau hi] using hb;by_cases hi2:i=acc.length;subst hi2;have hb:Nat.testBit (bitsOf o.after acc) j=true:=by simpa [Z8] using hb
   have ho:ops[acc.length]?=some o:=by have:=hops 0 (by simp);simpa using this
   rcases RY acc j o.after.toList 0 hb with h0 | ⟨e,h1,h2,h3⟩;simp at h0;rcases h3 with rfl | h3;exact .edge ho (by simpa using h1) h2;exact .more ho (by simpa using h1) h2 (h _ _ h3);have:(acc ++ [bitsOf o.after acc]).getD i 0=0:=by rw [Z8,afu (by simp;omega)];rfl
   rw [this] at hb;simp at hb
 refine key ops.toList [] (λk hk=>by simp) (λi j hb=>by simp at hb) i j h
def jQ (ops:Array Oper)(listed:Array Bool):Prop:=∀i o,listed.getD i false=true->ops[i]?=some o->∀e∈o.after,Region.binds .any e=true->listed.getD e.on false=true
theorem Ao.listed {ops:Array Oper}{listed:Array Bool}(hc:jQ ops listed){i j:Nat}(h:Ao ops i j):
  (∀o,ops[i]?=some o->∀e∈o.after,Region.binds .any e=true->listed.getD e.on false=true)->listed.getD j false=true:=by
 induction h with
 | edge ho he hb=>intro hi;exact hi _ ho _ he hb
 | more ho he hb _ ih=>intro hi;exact ih λo' ho'=>hc _ o' (hi _ ho _ he hb) ho'
theorem xL:∀{l:List Nat},Lg l=true->l.Nodup
 | [],_=>List.nodup_nil
 | x::l,h=>by simp only [Lg,U9,aiH] at h;refine afp.2 ⟨λhx=>?_,xL h.2⟩;have:=h.1;simp [hx] at this
theorem Mh {ms:List Nat}{ops:Array Oper}:∀{l before:List (Nat×Inst)},vL ms ops l before=true->∀p y,l[p]?=some y->ug ms ops y.1 y.2 ((l.take p).reverse++before)=true
 | [],_,_,p,y,hp=>by simp at hp
 | z::l,before,h,p,y,hp=>by
  simp only [vL,U9] at h;cases p with
  | zero=>simp at hp;subst hp;simpa using h.1
  | succ p=>have:=Mh h.2 p y (by simpa using hp);simpa using this
structure DS where
 ls:List j3
 env:T j3
 m:Mem
 gs:List Mem
def RdB (o:Oc)(g:Option (P6×Bool))(s:DS)(v:j3):Prop:=
 g=none∧∃y id off len cp,o=.bytesStr y∧F9 y s.ls s.env=.slice id off len cp∧isVoid ((hd s.m s.gs).get id)=true∧isCells (s.m.get id)=true∧fK (F9 y) s.ls s.env s.m=some v
def DStep (cf:F4)(b:Nat)(x:Nat×Inst)(s s':DS):Prop:=
 ∃v,s'.ls=v::s.ls∧s'.env=bW x.2.dst v s.env∧match x.2.op with
  | .p o=>FJ x.2.guard (nk o) s.ls s.env=some v∧s'.m=s.m∧s'.gs=s.gs
  | .r o=>((wY x.2.guard (ru o) s.ls s.env (hd s.m s.gs)=some v∧stable (wY x.2.guard (ru o)) s.ls s.env v x.1 (tl s.gs)=true)∨RdB o x.2.guard s v)∧True∧s'.m=s.m∧s'.gs=s.gs
  | .a o=>∃r,BQ x.2.guard (wH o) s.ls s.env (b+x.1)=some r∧v=r.1∧isVoid (s.m.get (b+x.1))=true∧kY (b+x.1) s.gs=true∧s'.m=tL s.m (b+x.1) r.2∧s'.gs=s.gs
  | .e o=>Jf x.2.guard (nu o) cf s.ls s.env s.m=some [⟨v,s'.m⟩]∧s'.gs=s'.m::s.gs∧¬ ∃x,v=.mZ x
theorem XL {α β:Type}{x:Option (List α)}{f:α->Option β}{r:β}(h:Oh x f=some r):∃a,x=some [a]∧f a=some r:=by
 cases x with
 | none=>cases h
 | some l=>match l,h with
  | [a],h=>exact⟨a,rfl,h⟩
  | [],h=>cases h
  | _ :: _ :: _,h=>cases h
def GStep (b:Nat)(x:Nat×Inst)(s s':DS):Prop:=
 ∃v,s'.ls=v::s.ls∧s'.env=bW x.2.dst v s.env∧s'.m=s.m∧s'.gs=(if aB x.2=true then s'.m::s.gs else s.gs)∧∀o,x.2.op=.a o->BQ x.2.guard (wH o) s.ls s.env (b+x.1)=none
def Mj (cf:F4)(b:Nat)(x:Nat×Inst)(s s':DS):Prop:=DStep cf b x s s'∨GStep b x s s'
theorem RZ {cf:F4}{b:Nat}{x:Nat×Inst}{gh:GF}{k:DC}{s:DS}{outs:List EM}(h:ab3 x.1 x.2.op x.2.dst x.2.guard gh k cf b s.ls s.env s.m s.gs=some outs):
  (∃s',DStep cf b x s s'∧k cf b s'.ls s'.env s'.m s'.gs=some outs)∨
  ∃eo y m',x.2.op=.e eo∧Jf x.2.guard (nu eo) cf s.ls s.env s.m=some [⟨.mZ y,m'⟩]∧∃es,gh b (.undef::s.ls) (bW x.2.dst .undef s.env) s.m (s.m::s.gs) [s.env]=some es∧outs=tT m' y es:=by
 obtain⟨c,op,dst,guard⟩:=x;unfold DStep;cases op with
 | p o=>obtain⟨v,h1,h⟩:=C8 h;exact .inl ⟨⟨v::s.ls,bW dst v s.env,s.m,s.gs⟩,⟨v,rfl,rfl,h1,rfl,rfl⟩,h⟩
 | r o=>
  have usual:∀{f:RF},f=wY guard (ru o)->nA f c (bW dst) k cf b s.ls s.env s.m s.gs=some outs->(∃s':DS,(∃v,s'.ls=v::s.ls∧s'.env=bW dst v s.env∧((wY guard (ru o) s.ls s.env (hd s.m s.gs)=some v∧stable (wY guard (ru o)) s.ls s.env v c (tl s.gs)=true)∨RdB o guard s v)∧True∧s'.m=s.m∧s'.gs=s.gs)∧k cf b s'.ls s'.env s'.m s'.gs=some outs):=by rintro f rfl h;obtain⟨v,h1,h⟩:=C8 h;obtain⟨h2,h⟩:=D7 h;exact⟨⟨v::s.ls,bW dst v s.env,s.m,s.gs⟩,⟨v,rfl,rfl,.inl ⟨h1,h2⟩,trivial,rfl,rfl⟩,h⟩
  change ab2 c o dst guard k cf b s.ls s.env s.m s.gs=some outs at h
  unfold ab2 at h;split at h;rename_i y;unfold aeo at h;split at h;rename_i id off len cp hv;cases hvo:isVoid ((hd s.m s.gs).get id) with
  | false=>rw [hvo] at h;exact .inl (usual rfl h)
  | true=>rw [hvo] at h;obtain⟨h1,h⟩:=D7 h;obtain⟨v,h2,h⟩:=C8 h;exact .inl ⟨⟨v::s.ls,bW dst v s.env,s.m,s.gs⟩,⟨v,rfl,rfl,.inr ⟨rfl,y,id,off,len,cp,rfl,hv,hvo,h1,h2⟩,trivial,rfl,rfl⟩,h⟩
  exact .inl (usual rfl h);exact .inl (usual rfl h)
 | a o=>obtain⟨r,h1,h⟩:=C8 h;obtain⟨h2,h⟩:=D7 h;obtain⟨h3,h⟩:=D7 h;exact .inl ⟨⟨r.1::s.ls,bW dst r.1 s.env,tL s.m (b+c) r.2,s.gs⟩,⟨r.1,rfl,rfl,r,h1,rfl,h2,h3,rfl,rfl⟩,h⟩
 | e o=>obtain⟨r,h1,h⟩:=XL h;obtain⟨v,m'⟩:=r;have h:dx v (λx=>ob (gh b (.undef::s.ls) (bW dst .undef s.env) s.m (s.m::s.gs) [s.env]) λes=>some (tT m' x es)) (k cf b (v::s.ls) (bW dst v s.env) m' (m'::s.gs))=some outs:=h;by_cases hx:∃x,v=.mZ x;obtain⟨x,rfl⟩:=hx;have h:ob (gh b (.undef::s.ls) (bW dst .undef s.env) s.m (s.m::s.gs) [s.env]) (λes=>some (tT m' x es))=some outs:=h;obtain⟨es,h2,h⟩:=C8 h;cases h;exact .inr ⟨o,x,m',rfl,h1,es,h2,rfl⟩;rw [Qm hx] at h;exact .inl ⟨⟨v::s.ls,bW dst v s.env,m',m'::s.gs⟩,⟨v,rfl,rfl,h1,rfl,hx⟩,h⟩
def Waits (x:Nat×Inst)(p:Nat)(A:Nat->Prop):Prop:=(∃o,x.2.op=.e o)∨∃k,(P6.loc k∈CV x.2.op∨∃wt,x.2.guard=some (.loc k,wt))∧A k
theorem xM {ds:List Bool}{i:Inst}(h:tO ds i=true):∃k,(P6.loc k∈CV i.op∨∃wt,i.guard=some (.loc k,wt))∧ds.getD k false=true:=by
 have key:∀y,Uk ds y=true->∃k,y=.loc k∧ds.getD k false=true:=λy hy=>by
  cases y with
  | loc k=>exact⟨k,rfl,hy⟩
  | slot j=>cases hy
  | con c=>cases hy
 unfold tO at h;rcases Bool.or_eq_true_iff.1 h with h | h;obtain⟨y,hy,h⟩:=List.any_eq_true.1 h;obtain⟨k,rfl,hk⟩:=key y h;exact⟨k,.inl hy,hk⟩;cases hg:i.guard with
 | none=>rw [hg] at h;cases h
 | some q=>obtain⟨y,wt⟩:=q;rw [hg] at h;obtain⟨k,rfl,hk⟩:=key y h;exact⟨k,.inr ⟨wt,rfl⟩,hk⟩
def Cb (l:List (Nat×Inst))(V:Nat->j3)(L:Nat->Bool)(a:T j3):Nat->T j3
 | 0=>a
 | k+1=>match l[k]? with
  | some x=>if L k then bW x.2.dst (V k) (Cb l V L a k) else Cb l V L a k
  | none=>Cb l V L a k
theorem Ho (x:Nat×Inst)(l:List (Nat×Inst))(V:Nat->j3)(L:Nat->Bool)(a:T j3):∀k,Cb (x::l) V L a (k+1)=Cb l (λp=>V (p+1)) (λp=>L (p+1)) (if L 0 then bW x.2.dst (V 0) a else a) k
 | 0=>rfl
 | k+1=>by
  rw [Cb,Ho x l V L a k];show (match l[k]? with | some x=>_ | none=>_)=_
  rw [Cb]
theorem Mq (f:T j3->T j3):∀l,Uj f l=l.map f
 | []=>rfl
 | x::l=>by show f x::Uj f l=_;rw [Mq f l];rfl
theorem Mr (m:Mem)(x:j3):∀es,tT m x es=es.map λe=>⟨e,m,some x,[]⟩
 | []=>rfl
 | e::es=>by show _::tT m x es=_;rw [Mr m x es];rfl
theorem UW {w:Bool}{f:T j3->T j3}{es:List (T j3)}{a:T j3}(h:a∈es):a∈TK w f es:=by
 unfold TK;cases w with
 | false=>exact h
 | true=>show a∈aX es _;rw [V5];exact ad6 _ h
theorem XM {j:Option Nat}{v:j3}{es:List (T j3)}{a:T j3}(h:a∈es):bW j v a∈TK j.isSome (bW j v) es:=by
 unfold TK;cases j with
 | none=>exact h
 | some j=>show _∈aX es _;rw [V5,Mq];exact aef _ (afQ h)
theorem UY {cf:F4}{b:Nat}:∀(l:List (Nat×Inst)) (ds:List Bool) (s:DS) (es0 es:List (T j3)),tQ l ds b s.ls s.env s.m s.gs es0=some es->
  ∃(S:Nat->DS) (D:Nat->Bool),S 0=s∧(∀p x,l[p]?=some x->((D p=false∧(x.2.dst.isSome=true->AY ((S (p+1)).ls.headD .undef)=true)∧DStep cf b x (S p) (S (p+1)))∨
   (D p=true∧GStep b x (S p) (S (p+1))∧Waits x p λk=>(∃q,q<p∧k=p-1-q∧D q=true)∨(p<=k∧ds.getD (k-p) false=true))))∧
   ∀L:Nat->Bool,(∀p,L p=true->D p=false)->∀a∈es0,Cb l (λp=>(S (p+1)).ls.headD .undef) L a l.length∈es:=by
 intro l;induction l with
 | nil=>intro ds s es0 es h;have h:some es0=some es:=h;cases h;exact⟨λ_=>s,λ_=>false,rfl,(λp x hp=>by simp at hp),λL _ a ha=>ha⟩
 | cons x l ih=>
  intro ds s es0 es h;have step:∀(d0:Bool) (v:j3) (s1:DS) (es1:List (T j3)),tQ l (d0::ds) b s1.ls s1.env s1.m s1.gs es1=some es->s1.ls.headD .undef=v->(∀a∈es0,a∈es1∧(d0=false->bW x.2.dst v a∈es1))->((d0=false∧(x.2.dst.isSome=true->AY v=true)∧DStep cf b x s s1)∨(d0=true∧GStep b x s s1∧Waits x 0 λk=>ds.getD k false=true))->
    ∃(S:Nat->DS) (D:Nat->Bool),S 0=s∧(∀p y,(x::l)[p]?=some y->((D p=false∧(y.2.dst.isSome=true->AY ((S (p+1)).ls.headD .undef)=true)∧DStep cf b y (S p) (S (p+1)))∨
     (D p=true∧GStep b y (S p) (S (p+1))∧Waits y p λk=>(∃q,q<p∧k=p-1-q∧D q=true)∨(p<=k∧ds.getD (k-p) false=true))))∧
     ∀L:Nat->Bool,(∀p,L p=true->D p=false)->∀a∈es0,Cb (x::l) (λp=>(S (p+1)).ls.headD .undef) L a (x::l).length∈es:=by
   intro d0 v s1 es1 h1 hv1 hes h2;obtain⟨S,D,g1,g2,g3⟩:=ih (d0::ds) s1 es1 es h1;refine⟨λp=>match p with | 0=>s | p+1=>S p,λp=>match p with | 0=>d0 | p+1=>D p,rfl,λp y hp=>?_,λL hL a ha=>?_⟩;cases p with
   | zero=>simp at hp;subst hp;show (d0=false∧(x.2.dst.isSome=true->AY ((S 0).ls.headD .undef)=true)∧DStep cf b x s (S 0))∨(d0=true∧GStep b x s (S 0)∧_);rw [g1,hv1];rcases h2 with h2 | ⟨h2,h3,h4⟩;exact .inl h2;refine .inr ⟨h2,h3,?_⟩;rcases h4 with h4 | ⟨k,h4,h5⟩;exact .inl h4;exact .inr ⟨k,h4,.inr ⟨afN _,by simpa using h5⟩⟩
   | succ p=>
    have q2:=g2 p y (by simpa using hp);rcases q2 with q2 | ⟨q2,q3,q4⟩;exact .inl q2;refine .inr ⟨q2,q3,?_⟩;rcases q4 with q4 | ⟨k,q4,q5⟩;exact .inl q4;refine .inr ⟨k,q4,?_⟩;rcases q5 with⟨q,r1,r2,r3⟩ | ⟨r1,r2⟩;exact .inl ⟨q+1,by omega,by omega,r3⟩;cases hk:k-p with
    | zero=>rw [hk] at r2;exact .inl ⟨0,by omega,by omega,by simpa using r2⟩
    | succ j=>rw [hk] at r2;exact .inr ⟨by omega,by rw [show k-(p+1)=j from by omega];simpa using r2⟩
   rw [abW,Ho];refine g3 (λp=>L (p+1)) (λp hp=>hL (p+1) hp) _ ?_;show (if L 0=true then bW x.2.dst ((S 0).ls.headD .undef) a else a)∈es1;rw [g1,hv1];cases hl0:L 0 with
   | false=>rw [if_neg (by decide)];exact (hes a ha).1
   | true=>rw [if_pos rfl];exact (hes a ha).2 (hL 0 hl0)
  have same:∀v,∀a∈es0,a∈es0∧(true=false->bW x.2.dst v a∈es0):=λv a ha=>⟨ha,λh=>by cases h⟩;have both:∀v,∀a∈es0,a∈TK x.2.dst.isSome (bW x.2.dst v) es0∧(false=false->bW x.2.dst v a∈TK x.2.dst.isSome (bW x.2.dst v) es0):=λv a ha=>⟨UW ha,λ_=>XM ha⟩;unfold tQ at h;cases ho:x.2.op with
  | e o=>rw [ho] at h;exact step true .undef ⟨.undef::s.ls,bW x.2.dst .undef s.env,s.m,s.m::s.gs⟩ es0 h rfl (same _) (.inr ⟨rfl,⟨.undef,rfl,rfl,rfl,by simp [aB,ho],λo' h'=>by rw [ho] at h';cases h'⟩,.inl ⟨o,ho⟩⟩)
  | a o=>
   rw [ho] at h;cases hdd:tO ds x.2 with
   | false=>
    simp only [hdd,cond_false] at h;cases hdst:x.2.dst with
    | some j=>rw [hdst] at h;cases h
    | none=>rw [hdst] at h;obtain⟨r,hr,h⟩:=C8 h;obtain⟨hv1,h⟩:=D7 h;obtain⟨hv2,h⟩:=D7 h;refine step false r.1 ⟨r.1::s.ls,s.env,tL s.m (b+x.1) r.2,s.gs⟩ es0 h rfl (λa ha=>⟨ha,λ_=>by rw [hdst];exact ha⟩) (.inl ⟨rfl,λh'=>by (rw [hdst] at h';cases h'),r.1,rfl,by rw [hdst];rfl,?_⟩);rw [ho];exact⟨r,hr,rfl,hv1,hv2,rfl,rfl⟩
   | true=>
    simp only [hdd,cond_true] at h;have h:(Option.rec (tQ l (true::ds) b (.undef::s.ls) (bW x.2.dst .undef s.env) s.m s.gs es0) (λ_=>none) (BQ x.2.guard (wH o) s.ls s.env (b+x.1)):Option (List (T j3)))=some es:=h;cases hn:BQ x.2.guard (wH o) s.ls s.env (b+x.1) with
    | some r=>rw [hn] at h;cases h
    | none=>rw [hn] at h;exact step true .undef ⟨.undef::s.ls,bW x.2.dst .undef s.env,s.m,s.gs⟩ es0 h rfl (same _) (.inr ⟨rfl,⟨.undef,rfl,rfl,rfl,by simp [aB,ho],λo' h'=>by rw [ho] at h';cases h';exact hn⟩,.inr (xM hdd)⟩)
  | r o=>
   rw [ho] at h;cases hdd:tO ds x.2 with
   | true=>simp only [hdd,cond_true] at h;exact step true .undef ⟨.undef::s.ls,bW x.2.dst .undef s.env,s.m,s.gs⟩ es0 h rfl (same _) (.inr ⟨rfl,⟨.undef,rfl,rfl,rfl,by simp [aB,ho],λo' h'=>by rw [ho] at h';cases h'⟩,.inr (xM hdd)⟩)
   | false=>simp only [hdd,cond_false] at h;obtain⟨v,hv,h⟩:=C8 h;obtain⟨hs,h⟩:=D7 h;obtain⟨hpl,h⟩:=D7 h;refine step false v ⟨v::s.ls,bW x.2.dst v s.env,s.m,s.gs⟩ _ h rfl (both v) (.inl ⟨rfl,λh'=>by (rw [h'] at hpl;exact hpl),v,rfl,rfl,?_⟩);rw [ho];exact⟨.inl ⟨hv,hs⟩,trivial,rfl,rfl⟩
  | p o=>
   rw [ho] at h;cases hdd:tO ds x.2 with
   | true=>simp only [hdd,cond_true] at h;exact step true .undef ⟨.undef::s.ls,bW x.2.dst .undef s.env,s.m,s.gs⟩ es0 h rfl (same _) (.inr ⟨rfl,⟨.undef,rfl,rfl,rfl,by simp [aB,ho],λo' h'=>by rw [ho] at h';cases h'⟩,.inr (xM hdd)⟩)
   | false=>simp only [hdd,cond_false] at h;obtain⟨v,hv,h⟩:=C8 h;obtain⟨hpl,h⟩:=D7 h;refine step false v ⟨v::s.ls,bW x.2.dst v s.env,s.m,s.gs⟩ _ h rfl (both v) (.inl ⟨rfl,λh'=>by (rw [h'] at hpl;exact hpl),v,rfl,rfl,?_⟩);rw [ho];exact⟨hv,rfl,rfl⟩
theorem Sb {o:yw}{l:List (Nat×Inst)}{b:Nat}{ls:List j3}{env:T j3}{m:Mem}{gs:List Mem}{es0 es:List (T j3)}(h:Xv o l b ls env m gs es0=some es):tQ l [true] b ls env m gs es0=some es:=by
 have key:(bif FK l [true] then tQ l [true] else KH) b ls env m gs es0=some es->tQ l [true] b ls env m gs es0=some es:=λh=>by
  cases hg:FK l [true] with
  | true=>rw [hg] at h;exact h
  | false=>rw [hg] at h;cases h
 unfold Xv at h;split at h<;>first | exact key h | cases h
structure aew (cf:F4)(b:Nat)(l:List (Nat×Inst))(S:Nat->DS)(D:Nat->Bool)(N:Nat)(y:j3)(m':Mem)(es:List (T j3)):Prop where
 at_:∃x eo,l[N]?=some x∧x.2.op=.e eo∧Jf x.2.guard (nu eo) cf (S N).ls (S N).env (S N).m=some [⟨.mZ y,m'⟩]
 lo:∀p,p<N->D p=false
 here:D N=true
 step:∀p x,l[p]?=some x->(D p=false∧DStep cf b x (S p) (S (p+1)))∨(N<=p∧D p=true∧GStep b x (S p) (S (p+1))∧(p=N∨Waits x p λk=>∃q,q<p∧k=p-1-q∧D q=true))
 na:∀p x,N<p->l[p]?=some x->D p=false->x.2.dst.isSome=true->AY ((S (p+1)).ls.headD .undef)=true
 envs:∀L:Nat->Bool,(∀p,N<p->L p=true->D p=false)->Cb (l.drop (N+1)) (λk=>(S (N+1+k+1)).ls.headD .undef) (λk=>L (N+1+k)) (S N).env (l.length-(N+1))∈es
theorem OT {cf:F4}{b:Nat}:∀(l:List (Nat×Inst)) (s:DS) (outs:List EM),tV l cf b s.ls s.env s.m s.gs=some outs->
  ∃S:Nat->DS,S 0=s∧(((∀p x,l[p]?=some x->DStep cf b x (S p) (S (p+1)))∧outs=[⟨(S l.length).env,(S l.length).m,none,[]⟩])∨
   ∃N D y m' es,aew cf b l S D N y m' es∧outs=tT m' y es):=by
 intro l;induction l with
 | nil=>intro s outs h;have h:some [EM.mk s.env s.m none []]=some outs:=h;cases h;exact⟨λ_=>s,rfl,.inl ⟨λp x hp=>by simp at hp,rfl⟩⟩
 | cons x l ih=>
  intro s outs h;have h:ab3 x.1 x.2.op x.2.dst x.2.guard (Xv x.2.op l) (tV l) cf b s.ls s.env s.m s.gs=some outs:=h;rcases RZ h with⟨s',h1,h2⟩ | ⟨eo,y,m',h1,h2,es,h3,h4⟩;obtain⟨S,g1,g2⟩:=ih s' outs h2;have hz:DStep cf b x s (S 0):=by rw [g1];exact h1
  refine⟨λp=>match p with | 0=>s | p+1=>S p,rfl,?_⟩;rcases g2 with⟨g2,g3⟩ | ⟨N,D,y,m',es,g2,g3⟩;refine .inl ⟨λp y hp=>?_,by simpa using g3⟩;cases p with
  | zero=>simp at hp;subst hp;exact hz
  | succ p=>exact g2 p y (by simpa using hp)
  refine .inr ⟨N+1,λp=>match p with | 0=>false | p+1=>D p,y,m',es,⟨?_,λp hp=>?_,g2.here,λp z hp=>?_,λp z hN hp hd=>?_,λL hL=>?_⟩,g3⟩
  obtain⟨z,eo,q1,q2,q3⟩:=g2.at_;exact⟨z,eo,by simpa using q1,q2,q3⟩;cases p with
  | zero=>rfl
  | succ p=>exact g2.lo p (by omega)
  cases p with
  | zero=>simp at hp;subst hp;exact .inl ⟨rfl,hz⟩
  | succ p=>rcases g2.step p z (by simpa using hp) with q | ⟨q1,q2,q3,q4⟩;exact .inl q;refine .inr ⟨by omega,q2,q3,?_⟩;rcases q4 with rfl | q4 | ⟨k,q4,q,r1,r2,r3⟩;exact .inl rfl;exact .inr (.inl q4);exact .inr (.inr ⟨k,q4,q+1,by omega,by omega,r3⟩)
  cases p with
  | zero=>omega
  | succ p=>exact g2.na p z (by omega) (by simpa using hp) hd
  have:=g2.envs (λp=>L (p+1)) λp hp hl=>hL (p+1) (by omega) hl;have e1:∀k,N+1+1+k=N+1+k+1:=λk=>by omega
  simpa [e1,afv,aiQ 1] using this;have hE:aB x.2=true:=by simp [aB,h1]
  obtain⟨S,D,g1,g2,g3⟩:=UY (cf:=cf) (b:=b) l [true] ⟨.undef::s.ls,bW x.2.dst .undef s.env,s.m,s.m::s.gs⟩ [s.env] es (Sb h3);refine⟨λp=>match p with | 0=>s | p+1=>S p,rfl,.inr ⟨0,λp=>match p with | 0=>true | p+1=>D p,y,m',es,⟨⟨x,eo,rfl,h1,h2⟩,λp hp=>by omega,rfl,λp z hp=>?_,λp z hN hp hd=>?_,λL hL=>?_⟩,h4⟩⟩;cases p with
  | zero=>simp at hp;subst hp;refine .inr ⟨J2 _,rfl,?_,.inl rfl⟩;show GStep b x s (S 0);rw [g1];exact⟨.undef,rfl,rfl,rfl,by simp [hE],λo' h'=>by rw [h1] at h';cases h'⟩
  | succ p=>
   have q:=g2 p z (by simpa using hp);rcases q with⟨q,_,q'⟩ | ⟨q1,q2,q3⟩;exact .inl ⟨q,q'⟩;refine .inr ⟨by omega,q1,q2,.inr ?_⟩;rcases q3 with q3 | ⟨k,q3,q4⟩;exact .inl q3;refine .inr ⟨k,q3,?_⟩;rcases q4 with⟨q,r1,r2,r3⟩ | ⟨r1,r2⟩;exact⟨q+1,by omega,by omega,r3⟩;cases hk:k-p with
   | zero=>exact⟨0,by omega,by omega,rfl⟩
   | succ j=>rw [hk] at r2;simp at r2
  cases p with
  | zero=>omega
  | succ p=>rcases g2 p z (by simpa using hp) with⟨_,q,_⟩ | ⟨q1,_⟩;exact q;have hd:D p=false:=hd;rw [q1] at hd;cases hd
  have:=g3 (λp=>L (p+1)) (λp hp=>hL (p+1) (by omega) hp) s.env (by simp);have e1:∀k,1+k=k+1:=λk=>by omega
  simpa [e1] using this
def fV (ops:Array Oper)(ord:List Nat)(p:Nat):List (Option Nat):=((ord.take p).map λi=>(ops[i]?).bind (·.dst)).reverse
theorem Sc {P:Program}{slots:List Nat}{ops:Array Oper}:∀(l:List Nat) (done:List (Option Nat)) (insts:List Inst),jH P slots ops done l=some insts->
  insts.length=l.length∧∀p i,l[p]?=some i->∃x o,insts[p]?=some x∧ops[i]?=some o∧pz P slots (fV ops l p++done) ops i=some (x,o.dst):=by
 intro l;induction l with
 | nil=>intro done insts h;simp only [jH,J6] at h;subst h;exact⟨rfl,λp i hp=>by simp at hp⟩
 | cons j l ih=>
  intro done insts h;obtain⟨x,d,l',hx,hl,rfl⟩:=pO h;obtain⟨h1,h2⟩:=ih _ _ hl;obtain⟨o,ho,rfl,_⟩:=kQ hx;refine⟨by simp [h1],λp i hp=>?_⟩;cases p with
  | zero=>simp at hp;subst hp;exact⟨x,o,rfl,ho,by simpa [fV] using hx⟩
  | succ p=>
   obtain⟨x',o',g1,g2,g3⟩:=h2 p i (by simpa using hp);refine⟨x',o',by simpa using g1,g2,?_⟩;have:fV ops (j::l) (p+1)++done=fV ops l p++o.dst::done:=by simp [fV,ho]
   rw [this];exact g3
theorem Mt (ms:List Nat):∀(l:List (Nat×Inst)) (effs:List Nat) (nal:Nat),(numbered ms l effs nal).length=l.length∧
  ∀p i x,l[p]?=some (i,x)->∃c,(numbered ms l effs nal)[p]?=some (c,x)∧
   (isR x=true->c=(((((l.take p).filter λy=>aB y.2).map (·.1)).reverse++effs).takeWhile λe=>!Om ms i e).length)∧
   (isR x=false->c=nal+((l.take p).filter λy=>isA y.2).length):=by
 intro l;induction l with
 | nil=>intro effs nal;exact⟨rfl,λp i x hp=>by simp at hp⟩
 | cons z l ih=>
  intro effs nal;obtain⟨j,y⟩:=z;obtain⟨h1,h2⟩:=ih (if aB y then j::effs else effs) (if isA y then nal+1 else nal);refine⟨by simp [numbered,h1],λp i x hp=>?_⟩;cases p with
  | zero=>simp at hp;obtain⟨rfl,rfl⟩:=hp;exact⟨_,rfl,λh=>by simp [ab5,h],λh=>by simp [ab5,h]⟩
  | succ p=>
   obtain⟨c,g1,g2,g3⟩:=h2 p i x (by simpa using hp);refine⟨c,by simpa [numbered] using g1,λh=>?_,λh=>?_⟩;rw [g2 h];cases hy:aB y<;>simp [hy]
   rw [g3 h];cases hy:isA y<;>simp [hy];omega
def Mem.sub (m m':Mem):Prop:=∀i b,m.get i=some b->bQ b=false->m'.get i=some b
theorem nX {β:Type}{m m':Mem}(h:m.sub m'){i:Nat}{k:Nat->Nat->T (List j3)->Option β}{r:β}(hv:Q9 (m.get i) k=some r):Q9 (m'.get i) k=some r:=by obtain⟨rs,n,rows,h1,h2⟩:=cZ hv;rw [h i _ h1 rfl];exact h2
theorem Qo {β:Type}{m m':Mem}(h:m.sub m'){i:Nat}{k:List (j3×j3)->Option β}{r:β}(hv:Od (m.get i) k=some r):Od (m'.get i) k=some r:=by obtain⟨es,h1,h2⟩:=Ac hv;rw [h i _ h1 rfl];exact h2
theorem UZ {β:Type}{m m':Mem}(h:m.sub m'){i:Nat}{k:List (j3×j3)->Option β}{r:β}(hv:KQ (m.get i) k=some r):KQ (m'.get i) k=some r:=by obtain⟨es,h1 | h1,h2⟩:=Cn hv;all_goals (rw [h i _ h1 rfl];exact h2)
theorem yX {m m':Mem}(h:m.sub m'){i off n:Nat}{l:List j3}(hv:X0 m i off n=some l):X0 m' i off n=some l:=by
 cases n with
 | zero=>exact hv
 | succ n=>exact nX h (k:=λrs k rows=>U4 rs k rows (n+1) off) hv
theorem XO {m m':Mem}(h:m.sub m'){o:Oc}{ls:List j3}{env:T j3}{v:j3}(hv:ru o ls env m=some v):ru o ls env m'=some v:=by
 cases o with
 | load size x=>
  cases size with
  | none=>obtain⟨id,off,h1,hv⟩:=dV hv;have h1:F9 x ls env=.ptr id off:=h1;show gK (F9 x ls env) _=_;rw [h1];exact nX h hv
  | some k=>obtain⟨id,off,h1,hv⟩:=dV hv;have h1:F9 x ls env=.ptr id off:=h1;show gK (F9 x ls env) _=_;rw [h1];exact nX h hv
 | look kk z ok x y=>rcases vN hv with⟨h1,hv⟩ | ⟨id,h1,hv⟩;have h1:F9 x ls env=.nilMap:=h1;show wh (F9 x ls env) _ _=_;rw [h1];exact hv;have h1:F9 x ls env=.map id:=h1;show wh (F9 x ls env) _ _=_;rw [h1];exact UZ h hv
 | slData x=>exact hv
 | toUns x=>
  change wX (F9 x) ls env m=some v at hv
  show wX (F9 x) ls env m'=some v;unfold wX at hv ⊢;split at hv;exact hv;exact nX h hv;cases hv
 | fromUns l x=>
  change nK l (F9 x) ls env m=some v at hv
  show nK l (F9 x) ls env m'=some v;unfold nK at hv ⊢;split at hv;exact hv;exact nX h hv;cases hv
 | lenM x=>rcases vN hv with⟨h1,hv⟩ | ⟨id,h1,hv⟩;have h1:F9 x ls env=.nilMap:=h1;show wh (F9 x ls env) _ _=_;rw [h1];exact hv;have h1:F9 x ls env=.map id:=h1;show wh (F9 x ls env) _ _=_;rw [h1];exact Qo h hv
 | bytesStr x=>rcases rA hv with⟨h1,hv⟩ | ⟨id,off,len,cap,h1,hv⟩ | ⟨id,off,len,cap,h1,hv⟩;have h1:F9 x ls env=.nilSlice:=h1;show jV (F9 x ls env) _ _ _=_;rw [h1];exact hv;have h1:F9 x ls env=.slice id off len cap:=h1;show jV (F9 x ls env) _ _ _=_;rw [h1];obtain⟨l,h2,hv⟩:=C8 hv;show ob (X0 m' id off len) _=_;rw [yX h h2];exact hv;have h1:F9 x ls env=.sliceU id off len cap:=h1;show jV (F9 x ls env) _ _ _=_;rw [h1];obtain⟨l,h2,hv⟩:=C8 hv;show ob (X0 m' id off len) _=_;rw [yX h h2];exact hv
 | entry x=>
  obtain⟨id,off,h1,hv⟩:=dV hv;have h1:F9 x ls env=.ptr id off:=h1;show gK (F9 x ls env) _=_;rw [h1];obtain⟨h2,hv⟩:=D7 hv;show bi (Nat.beq off 0) _ none=_;rw [h2];rcases DN hv with⟨_,_,_,hv⟩ | ⟨mp,since,seen,h3,hv⟩;cases hv;show Gr (m'.get id) _ _=_;rw [h id _ h3 rfl];cases seen with
  | nil=>cases hv
  | cons i t=>exact Qo h hv
theorem kS {f:j3->j3->Bool}(hf:∀x y,f x y=true->x=y):∀a b:List j3,wm f a b=true->a=b
 | [],[],_=>rfl
 | [],y::b,h=>by cases h
 | x::a,[],h=>by cases h
 | x::a,y::b,h=>by
  have h:bi (f x y) (wm f a b) false=true:=h;cases hx:f x y with
  | false=>rw [hx] at h;cases h
  | true=>rw [hx] at h;rw [hf x y hx,kS hf a b h]
theorem cu {a b:Bool}(h:bi a b false=true):a=true∧b=true:=by cases a<;>cases b<;>first | exact⟨rfl,rfl⟩ | cases h
theorem jh:∀(n:Nat) (x y:j3),aW n x y=true->x=y:=by
 intro n;induction n with
 | zero=>intro x y h;cases h
 | succ n ih=>
  intro x y h;cases x with
  | bool a=>cases y<;>first | (cases h;done) | (have h:CX _ _=true:=h;rw [zY] at h;rw [eq_of_beq h])
  | int k a=>
   cases y<;>first | (cases h;done) | skip
   obtain⟨h1,h2⟩:=cu (a:=Xj _ _) (b:=aV _ _) h;rw [Ou] at h1;rw [fF] at h2;rw [of_decide_eq_true h1,eq_of_beq h2]
  | str a=>cases y<;>first | (cases h;done) | (have h:strEq _ _=true:=h;rw [gT] at h;rw [eq_of_beq h])
  | ptr a b=>
   cases y<;>first | (cases h;done) | skip
   obtain⟨h1,h2⟩:=cu (a:=Nat.beq _ _) (b:=Nat.beq _ _) h;rw [J4 h1,J4 h2]
  | slice a b c d=>
   cases y<;>first | (cases h;done) | skip
   obtain⟨h1,h⟩:=cu (a:=Nat.beq _ _) h;obtain⟨h2,h⟩:=cu (a:=Nat.beq _ _) h;obtain⟨h3,h4⟩:=cu (a:=Nat.beq _ _) h;rw [J4 h1,J4 h2,J4 h3,J4 h4]
  | sliceU a b c d=>
   cases y<;>first | (cases h;done) | skip
   obtain⟨h1,h⟩:=cu (a:=Nat.beq _ _) h;obtain⟨h2,h⟩:=cu (a:=Nat.beq _ _) h;obtain⟨h3,h4⟩:=cu (a:=Nat.beq _ _) h;rw [J4 h1,J4 h2,J4 h3,J4 h4]
  | map a=>cases y<;>first | (cases h;done) | (have h:Nat.beq _ _=true:=h;rw [J4 h])
  | func fn a b=>
   cases fn<;>cases y<;>first | (cases h;done) | skip
   all_goals
   rename_i f fn' c d;cases fn'<;>first | (cases h;done) | skip
   obtain⟨h1,h⟩:=cu (a:=Nat.beq _ _) h;obtain⟨h2,h3⟩:=cu h;rw [J4 h1,kS ih _ _ h2,kS ih _ _ h3]
  | iface t a=>
   cases y<;>first | (cases h;done) | skip
   obtain⟨h1,h2⟩:=cu (a:=Nat.beq _ _) h;rw [J4 h1,ih _ _ h2]
  | agg a=>cases y<;>first | (cases h;done) | (rw [kS ih _ _ h])
  | tuple a=>cases y<;>first | (cases h;done) | (rw [kS ih _ _ h])
  | _=>cases y<;>first | rfl | (cases h;done)
theorem Bp {f:RF}{ls:List j3}{env:T j3}{v:j3}:∀{n:Nat} {gs:List Mem},stable f ls env v n gs=true->∀k,k<n->∃g,gs[k]?=some g∧f ls env g=some v
 | 0,_,_,k,hk=>by omega
 | n+1,[],h,k,hk=>by cases h
 | n+1,g::gs,h,k,hk=>by
  have h:bi (Option.rec false (λu=>aW 100 u v) (f ls env g)) (stable f ls env v n gs) false=true:=h;obtain⟨h1,h2⟩:=cu h;cases k with
  | zero=>
   refine⟨g,rfl,?_⟩;cases hf:f ls env g with
   | none=>rw [hf] at h1;cases h1
   | some u=>rw [hf] at h1;rw [jh 100 u v h1]
  | succ k=>obtain⟨g',h3,h4⟩:=Bp h2 k (by omega);exact⟨g',by simpa using h3,h4⟩
theorem uM {b:Option O9}(h:isVoid b=true):b=some .void:=by unfold isVoid at h;split at h;rfl;cases h
theorem yY {i:Nat}:∀{gs:List Mem},kY i gs=true->∀g∈gs,g.get i=some .void
 | [],_,g,hg=>by cases hg
 | x::gs,h,g,hg=>by obtain⟨h1,h2⟩:=cu (a:=isVoid (x.get i)) (b:=kY i gs) h;rcases Z7.1 hg with rfl | hg;exact uM h1;exact yY h2 g hg
section
variable {P:Program}{G:Mem}{ι:K4}{m:Mem}{w:World}
theorem JE (m:Mem):reserve 0 m=m:=rfl
theorem JF (n:Nat)(m:Mem):reserve (n+1) m=reserve n (m.new .void):=rfl
theorem Ej (h:RM P G ι m w.heap):Step P G ι m w ι (m.new .void) w:=by
 have hget:=Mem.N7 h.ok .void;have hne:∀i x,m.get i=some x->i≠m.nx:=λi x hx e=>by have:=Mem.I8 h.ok hx;omega
 have hhas:∀i,m.has i->(m.new .void).has i:=λi ⟨x,hx,hv⟩=>⟨x,by rw [hget,if_neg (hne i x hx)];exact hx,hv⟩;have hold:∀i x,(m.new .void).get i=some x->U2 x=true->m.get i=some x:=λi x hx hl=>by rw [hget] at hx;split at hx;cases hx;cases hl;exact hx
 refine⟨⟨h.ok.push .void,?_,?_,h.glim,aic h.limn,h.gle,λi hi=>by rw [hget,if_neg (by have:=h.glim;have:=h.limn;omega)];exact h.base i hi,λi hi=>hhas i (h.ghas i hi),h.glob,λi x hx hl=>h.spot i x (hold i x hx hl) hl,h.gsz⟩,
  λ_ _=>rfl,hhas,aiB _,rfl,λi hi=>by rw [hget,if_neg (by have:=h.limn;omega)],J2 _,λ_ _ _=>rfl,?_,rfl,rfl,rfl⟩
 intro i x hx;rw [hget] at hx;split at hx;cases hx;trivial;exact (h.blk i x hx).mono (n:=m.nm ι) (λ_ _=>rfl) (Mem.ah hhas λ_ _=>rfl) λ_=>rfl;intro i x hi hx hl;have ho:=h.own i x hi (hold i x hx hl) hl;exact⟨λj y hj hy hly=>ho.alone j y hj (hold j y hy hly) hly,ho.free⟩;rintro b ⟨i,x,hi,hx,hl,rfl⟩;exact .inl ⟨i,x,hi,hold i x hx hl,hl,rfl⟩
theorem yZ:∀(n:Nat) {m:Mem},RM P G ι m w.heap->Step P G ι m w ι (reserve n m) w
 | 0,_,h=>Step.refl h
 | n+1,_,h=>(Ej h).trans (yZ n (Ej h).rm)
structure ajj (P:Program)(ι:K4)(n:Nm)(h:Array Obj)(id:Nat)(b:O9)(m:Mem):Prop where
 blk:bP P ι n h (ι id) b
 live:bQ b=false
 alone:U2 b=true->∀j y,j≠id->m.get j=some y->U2 y=true->(ι j).b≠(ι id).b
 free:U2 b=true->∀c e fz,h[(ι id).b]?=some (.cells c e fz)->∀k,k<c.size->¬ (fz.1<=k∧k<fz.2)
 spot:U2 b=true->(ι id).spot=none
theorem Step.add {ι0:K4}{m0:Mem}{w0:World}(hst:Step P G ι0 m0 w0 ι m w){id:Nat}{b:O9}(hv:m.get id=some .void)(hid:m.lim<=id)(hl:ajj P ι ((m.set id b).nm ι) w.heap id b m)
  (hnew:U2 b=true->w0.heap.size<=(ι id).b):Step P G ι0 m0 w0 ι (m.set id b) w:=by
 have h:=hst.rm;have hlt:=Mem.I8 h.ok hv;have hget:=Mem.Z0 h.ok hlt b;have hnv:¬ m.has id:=λ⟨x,h1,h2⟩=>by rw [hv] at h1;cases h1;cases h2
 have hhas:∀i,m.has i->(m.set id b).has i:=λi hi=>by have hne:i≠id:=λe=>hnv (e▸hi);obtain⟨x,h1,h2⟩:=hi;exact⟨x,by rw [hget,if_neg hne];exact h1,h2⟩
 have hcase:∀i x,(m.set id b).get i=some x->(i=id∧x=b)∨(i≠id∧m.get i=some x):=λi x hx=>by rw [hget] at hx;split at hx;cases hx;exact .inl ⟨by assumption,rfl⟩;exact .inr ⟨by assumption,hx⟩
 refine⟨⟨h.ok.put id b hlt,?_,?_,h.glim,h.limn,h.gle,λi hi=>by rw [hget,if_neg (by have:=h.glim;omega)];exact h.base i hi,λi hi=>hhas i (h.ghas i hi),h.glob,λi x hx hlx=>by
   rcases hcase i x hx with⟨rfl,rfl⟩ | ⟨_,hx⟩;exact hl.spot hlx;exact h.spot i x hx hlx,h.gsz⟩,
  hst.ext,λi hi=>hhas i (hst.has i hi),hst.nx,hst.lim,λi hi=>by rw [hget,if_neg (by have:=hst.lim;omega)];exact hst.old i hi,hst.size,hst.frame,?_,hst.os,hst.out,hst.tape⟩
 intro i x hx;rcases hcase i x hx with⟨rfl,rfl⟩ | ⟨hne,hx⟩;exact hl.blk;exact (h.blk i x hx).mono (n:=m.nm ι) (λ_ _=>rfl) (Mem.ah hhas λ_ _=>rfl) λ_=>rfl;intro i x hi hx hlx;rcases hcase i x hx with⟨rfl,rfl⟩ | ⟨hne,hx⟩;refine⟨λj y hj hy hly=>?_,hl.free hlx⟩;rcases hcase j y hy with⟨h1,_⟩ | ⟨h1,h2⟩;exact absurd h1 hj;exact hl.alone hlx j y hj h2 hly;rename_i hx';have ho:=h.own i x hi hx hlx;refine⟨λj y hj hy hly=>?_,ho.free⟩;rcases hcase j y hy with⟨rfl,rfl⟩ | ⟨h1,h2⟩;exact λe=>hl.alone hly i x hne hx hlx e.symm;exact ho.alone j y hj h2 hly;rintro b' ⟨i,x,hi,hx,hlx,rfl⟩;rcases hcase i x hx with⟨rfl,rfl⟩ | ⟨hne,hx⟩;exact .inr (hnew hlx);exact hst.own _ ⟨i,x,hi,hx,hlx,rfl⟩
theorem Step.push {ι':K4}{w':World}{o:Obj}(h:RM P G ι m w.heap)(hw:Uu w w' o)(hext:∀i,m.has i->ι' i=ι i):Step P G ι m w ι' m w':=by
 have hpush:∀k,k<w.heap.size->w'.heap[k]?=w.heap[k]?:=λk hk=>by rw [hw.heap];exact (aik hk).trans (aaG hk).symm
 have hnm:(m.nm ι).le (m.nm ι'):=Mem.ah (λi hi=>hi) hext;have hlive:∀i x,m.get i=some x->U2 x=true->ι' i=ι i:=λi x hx hl=>hext i (qB hx hl);refine⟨⟨h.ok,?_,?_,h.glim,h.limn,h.gle,h.base,h.ghas,λi hi=>by rw [hext i (h.ghas i hi)];exact h.glob i hi,λi x hx hl=>by rw [hlive i x hx hl];exact h.spot i x hx hl,h.Ll λk hk _=>hpush k hk⟩,hext,λi hi=>hi,J2 _,rfl,λ_ _=>rfl,by rw [hw.heap];simp,λb hb _=>hpush b hb,?_,hw.os,hw.out,hw.tape⟩;intro i x hx;by_cases hv:bQ x=true;cases x<;>first | trivial | cases hv
 rw [hext i ⟨x,hx,by simpa using hv⟩];exact (h.blk i x hx).mono (n:=m.nm ι) hext hnm λhl=>hpush _ (dD (h.blk i x hx) hl);intro i x hi hx hl;have ho:=h.own i x hi hx hl;have hb:=dD (h.blk i x hx) hl;refine⟨λj y hj hy hly=>?_,λc e fz hc=>?_⟩;rw [hlive i x hx hl,hlive j y hy hly];exact ho.alone j y hj hy hly;rw [hlive i x hx hl,hpush _ hb] at hc;exact ho.free c e fz hc;rintro b ⟨i,x,hi,hx,hl,rfl⟩;rw [hlive i x hx hl];exact .inl ⟨i,x,hi,hx,hl,rfl⟩
end
section
variable {P:Program}{G:Mem}{slots:List Nat}{nt:Nat}{cf:F4}{b:Nat}{ops:Array Oper}{ord:List Nat}{X:Nat->Nat×Inst}{S:Nat->DS}
def Mv (ops:Array Oper)(ord:List Nat)(X:Nat->Nat×Inst)(p i:Nat):P6->Prop
 | .loc k=>∃j,k<p∧ord[p-1-k]?=some j∧Ao ops i j
 | .slot j=>∀q,q<p->(X q).2.dst≠some j
 | .con _=>True
def za (ord:List Nat)(X:Nat->Nat×Inst):Nat->List Nat
 | 0=>[]
 | p+1=>if aB (X p).2 then (ord.getD p 0)::za ord X p else za ord X p
structure Fixed (P:Program)(slots:List Nat)(nt:Nat)(cf:F4)(b:Nat)(ops:Array Oper)(ord:List Nat)(X:Nat->Nat×Inst)(S:Nat->DS):Prop where
 nodup:ord.Nodup
 all:∀i,i<ops.size->i∈ord
 lt:∀i∈ord,i<ops.size
 inst:∀(p i:Nat),ord[p]?=some i->∃o,ops[i]?=some o∧(X p).2.op=jZ P slots (fV ops ord p) o.op∧(X p).2.dst=FM slots o.dst∧mX ops (fV ops ord p) o.guard (X p).2.guard
 step:∀p,p<ord.length->Mj cf b (X p) (S p) (S (p+1))
 eff:∀(p i:Nat),ord[p]?=some i->aB (X p).2=true->∀(q j:Nat),q<p->ord[q]?=some j->Ao ops i j
 edges:∀(p i:Nat) (o:Oper),ord[p]?=some i->ops[i]?=some o->∀e∈o.after,Region.binds .any e=true->∃q:Nat,q<p∧ord[q]?=some e.on
 dsts:∀(i j:Nat) (oi oj:Oper) (t:Tmp),ops[i]?=some oi->ops[j]?=some oj->oi.dst=some t->oj.dst=some t->i=j
 looks:∀(i:Nat) (o:Oper) (t:Tmp),ops[i]?=some o->t∈xu ops o->∀(q:Nat) (oq:Oper),ops[q]?=some oq->q≠i->oq.dst=some t->Ao ops i q∨Ao ops q i
 WQ:∀(p i:Nat),ord[p]?=some i->∀y∈CV (X p).2.op,Mv ops ord X p i y
 opdg:∀(p i:Nat) (y:P6) (wt:Bool),ord[p]?=some i->(X p).2.guard=some (y,wt)->Mv ops ord X p i y
 cnt:∀(p i:Nat) o,ord[p]?=some i->(X p).2.op=.r o->(X p).1=((za ord X p).takeWhile λe=>!Om (masks ops.toList) i e).length
 nal:∀(p q:Nat) o o',p<q->q<ord.length->(X p).2.op=.a o->(X q).2.op=.a o'->(X p).1<(X q).1
 din:∀(i:Nat) (o:Oper) (t:Tmp),ops[i]?=some o->o.dst=some t->t<nt
 gs0:(S 0).gs=[(S 0).m]
 ls0:(S 0).ls=[]
def rV (S:Nat->DS)(p:Nat):j3:=(S (p+1)).ls.headD .undef
def dN (b:Nat)(X:Nat->Nat×Inst)(S:Nat->DS)(p:Nat):Option (Nat×O9):=match (X p).2.op with
 | .a o=>match BQ (X p).2.guard (wH o) (S p).ls (S p).env (b+(X p).1) with
  | some (_,some blk)=>some (b+(X p).1,blk)
  | _=>none
 | _=>none
def aL (b:Nat)(X:Nat->Nat×Inst)(S:Nat->DS)(q:Nat)(L:Nat->Bool):Nat->Mem
 | 0=>(S q).m
 | d+1=>if L (q+d) then (match dN b X S (q+d) with
    | some (i,blk)=>(aL b X S q L d).set i blk
    | none=>aL b X S q L d)
  else aL b X S q L d
theorem Va {x:Nat×Inst}{s s':DS}(h:Mj cf b x s s'):∃v,s'.ls=v::s.ls∧s'.env=bW x.2.dst v s.env:=by rcases h with⟨v,h1,h2,_⟩ | ⟨v,h1,h2,_⟩<;>exact⟨v,h1,h2⟩
theorem Mw {x:Nat×Inst}{s s':DS}(h:Mj cf b x s s'):s'.gs=if aB x.2=true then s'.m::s.gs else s.gs:=by
 rcases h with⟨v,h1,h2,h3⟩ | ⟨v,_,_,_,h4,_⟩;cases hop:x.2.op with
 | p o=>rw [hop] at h3;simp [aB,hop,h3.2.2]
 | r o=>rw [hop] at h3;simp [aB,hop,h3.2.2.2]
 | a o=>rw [hop] at h3;obtain⟨_,_,_,_,_,_,h⟩:=h3;simp [aB,hop,h]
 | e o=>rw [hop] at h3;simp [aB,hop,h3.2.1]
 exact h4
theorem Fixed.ls (F:Fixed P slots nt cf b ops ord X S){p:Nat}(hp:p<ord.length):(S (p+1)).ls=rV S p::(S p).ls∧(S (p+1)).env=bW (X p).2.dst (rV S p) (S p).env:=by
 obtain⟨v,h1,h2⟩:=Va (F.step p hp);have:rV S p=v:=by simp [rV,h1]
 rw [this];exact⟨h1,h2⟩
theorem Fixed.len (F:Fixed P slots nt cf b ops ord X S):∀p,p<=ord.length->(S p).ls.length=p∧∀k,k<p->(S p).ls[k]?=some (rV S (p-1-k)):=by
 intro p;induction p with
 | zero=>intro _;exact⟨by rw [F.ls0];rfl,λk hk=>by omega⟩
 | succ p ih=>
  intro hp;obtain⟨h1,h2⟩:=ih (by omega);obtain⟨h3,_⟩:=F.ls (p:=p) (by omega);rw [h3];refine⟨by simp [h1],λk hk=>?_⟩;cases k with
  | zero=>simp
  | succ k=>rw [ad4,h2 k (by omega),show p+1-1-(k+1)=p-1-k from by omega]
theorem Fixed.gs (F:Fixed P slots nt cf b ops ord X S){q:Nat}(hq:q=0∨aB (X (q-1)).2=true):∀d,q+d<=ord.length->
  ∃r:Nat,(S (q+d)).gs[r]?=some (S q).m∧∀k:Nat,k<r->∃pos e,q<=pos∧pos<q+d∧ord[pos]?=some e∧aB (X pos).2=true∧(za ord X (q+d))[k]?=some e:=by
 intro d;induction d with
 | zero=>
  intro hd;refine⟨0,?_,λk hk=>by omega⟩;rcases hq with rfl | hq;rw [aay,F.gs0];rfl;cases q with
  | zero=>rw [aay,F.gs0];rfl
  | succ q=>have hs:=Mw (F.step q (by omega));simp only [aiC] at hq;rw [if_pos hq] at hs;rw [aay,hs];rfl
 | succ d ih=>
  intro hd;obtain⟨r,h1,h2⟩:=ih (by omega);have hs:=Mw (F.step (q+d) (by omega));have hpos:q+d<ord.length:=by omega
  have hget:ord[q+d]?=some (ord.getD (q+d) 0):=by rw [Z8,J7 hpos];rfl
  cases he:aB (X (q+d)).2 with
  | true=>
   have hgs:(S (q+(d+1))).gs=(S (q+(d+1))).m::(S (q+d)).gs:=by rw [if_pos he] at hs;exact hs
   refine⟨r+1,by rw [hgs];simpa using h1,λk hk=>?_⟩;have heff:za ord X (q+(d+1))=ord.getD (q+d) 0::za ord X (q+d):=by show za ord X (q+d+1)=_;simp [za,he]
   cases k with
   | zero=>exact⟨q+d,_,by omega,by omega,hget,he,by rw [heff];rfl⟩
   | succ k=>obtain⟨pos,e,g1,g2,g3,g4,g5⟩:=h2 k (by omega);exact⟨pos,e,g1,by omega,g3,g4,by rw [heff];simpa using g5⟩
  | false=>
   have hgs:(S (q+(d+1))).gs=(S (q+d)).gs:=by rw [if_neg (by rw [he];exact Bool.false_ne_true)] at hs;exact hs
   refine⟨r,by rw [hgs];exact h1,λk hk=>?_⟩;obtain⟨pos,e,g1,g2,g3,g4,g5⟩:=h2 k hk;refine⟨pos,e,g1,by omega,g3,g4,?_⟩;have:za ord X (q+(d+1))=za ord X (q+d):=by show za ord X (q+d+1)=_;simp [za,he]
   rw [this];exact g5
theorem wU {α:Type}(f:α->Bool):∀(l:List α) (r:Nat),(∀k,k<r->∃e,l[k]?=some e∧f e=true)->r<=(l.takeWhile f).length
 | _,0,_=>afN _
 | [],r+1,h=>by obtain⟨e,h1,_⟩:=h 0 (by omega);simp at h1
 | x::l,r+1,h=>by obtain⟨e,h1,h2⟩:=h 0 (by omega);simp at h1;subst h1;rw [List.takeWhile_cons,if_pos h2];have:=wU f l r (λk hk=>by obtain⟨e,h3,h4⟩:=h (k+1) (by omega);exact⟨e,by simpa using h3,h4⟩);simpa using this
theorem Fixed.made (F:Fixed P slots nt cf b ops ord X S){p:Nat}(hp:p<ord.length){i:Nat}{blk:O9}(h:dN b X S p=some (i,blk)):
  i=b+(X p).1∧(∃o,(X p).2.op=.a o∧BQ (X p).2.guard (wH o) (S p).ls (S p).env (b+(X p).1)=some (rV S p,some blk))∧(S (p+1)).m=(S p).m.set i blk∧(S p).m.get i=some .void∧∀g∈(S p).gs,g.get i=some .void:=by
 have hst:=F.step p hp;unfold dN at h;split at h;rename_i o ho;obtain⟨v,h1,h2,hs⟩:=hst.resolve_right λ⟨_,_,_,_,_,hh⟩=>by rw [hh o ho] at h;cases h
 have hv:rV S p=v:=by simp [rV,h1]
 rw [ho] at hs;obtain⟨r,g1,g2,g3,g4,g5,g6⟩:=hs;rw [g1] at h;obtain⟨u,bl⟩:=r;cases bl with
 | none=>cases h
 | some bl=>cases h;exact⟨rfl,⟨o,ho,by rw [g1,hv,g2]⟩,g5,uM g3,yY g4⟩
 cases h
theorem Fixed.Hq (F:Fixed P slots nt cf b ops ord X S){p q:Nat}(hp:p<q)(hq:q<ord.length){i j:Nat}{x y:O9}(h:dN b X S p=some (i,x))(h':dN b X S q=some (j,y)):i<j:=by obtain⟨h1,⟨o,h2,_⟩,_⟩:=F.made (by omega) h;obtain⟨h3,⟨o',h4,_⟩,_⟩:=F.made hq h';have:=F.nal p q o o' hp hq h2 h4;omega
theorem Fixed.quiet (F:Fixed P slots nt cf b ops ord X S){p:Nat}(hp:p<ord.length)(he:aB (X p).2=false):(S (p+1)).m=(match dN b X S p with | some (i,blk)=>(S p).m.set i blk | none=>(S p).m):=by
 cases hm:dN b X S p with
 | some y=>obtain⟨i,blk⟩:=y;exact (F.made hp hm).2.2.1
 | none=>
  rcases F.step p hp with⟨v,_,_,hs⟩ | ⟨_,_,_,hh,_,_⟩
  case inr=>exact hh
  cases hop:(X p).2.op with
  | p o=>rw [hop] at hs;exact hs.2.1
  | r o=>rw [hop] at hs;exact hs.2.2.1
  | e o=>simp [aB,hop] at he
  | a o=>
   rw [hop] at hs;obtain⟨r,g1,_,_,_,g5,_⟩:=hs;rw [g5];obtain⟨u,bl⟩:=r;cases bl with
   | none=>rfl
   | some bl=>simp [dN,hop,g1] at hm
theorem T.xO {α:Type}:∀(t:T α) (i:Nat) {x:α},t.get i=some x->∀(v:α) (j:Nat),(t.put i v).get j=if j=i then some v else t.get j
 | .e,i,x,h,v,j=>by cases h
 | .nd l y r,i,x,h,v,j=>by
  have hl:=λi x (h:l.get i=some x)=>T.xO l i h;have hr:=λi x (h:r.get i=some x)=>T.xO r i h;cases i with
  | zero=>
   cases j with
   | zero=>rfl
   | succ j=>rw [if_neg (by omega)];rfl
  | succ i=>
   have hm:Nat.mod i 2=0∨Nat.mod i 2=1:=by have:Nat.mod i 2<2:=ait _ (by omega);omega
   have hmj:Nat.mod j.pred 2=0∨Nat.mod j.pred 2=1:=by have:Nat.mod j.pred 2<2:=ait _ (by omega);omega
   have hg:(T.nd l y r).get (i+1)=(Nat.rec (l.get (Nat.div i 2)) (λ_ _=>r.get (Nat.div i 2)) (Nat.mod i 2):Option α):=rfl;have hp:(T.nd l y r).put (i+1) v=(Nat.rec (.nd (l.put (Nat.div i 2) v) y r) (λ_ _=>.nd l y (r.put (Nat.div i 2) v)) (Nat.mod i 2):T α):=rfl;rw [hg] at h;rw [hp];have hgj:∀(a b:T α) (k:Nat),(T.nd a y b).get (k+1)=(Nat.rec (a.get (Nat.div k 2)) (λ_ _=>b.get (Nat.div k 2)) (Nat.mod k 2):Option α):=λ_ _ _=>rfl;rcases hm with hm | hm;rw [hm] at h ⊢;cases j with
   | zero=>rw [if_neg (by omega)];rfl
   | succ k=>
    show (T.nd (l.put (Nat.div i 2) v) y r).get (k+1)=_;rw [hgj,hgj];rcases hmj with hk | hk<;>rw [show Nat.pred (k+1)=k from rfl] at hk<;>rw [hk]
    show (l.put (Nat.div i 2) v).get (Nat.div k 2)=if k+1=i+1 then some v else l.get (Nat.div k 2)
    rw [hl _ x h v];have e:Nat.div k 2=Nat.div i 2↔k+1=i+1:=by have h1:Nat.mod k 2=k%2:=rfl;have h2:Nat.mod i 2=i%2:=rfl;have h3:Nat.div k 2=k / 2:=rfl;have h4:Nat.div i 2=i / 2:=rfl;omega
    by_cases hh:k+1=i+1;rw [if_pos hh,if_pos (e.2 hh)];rw [if_neg hh,if_neg λq=>hh (e.1 q)];show r.get (Nat.div k 2)=if k+1=i+1 then some v else r.get (Nat.div k 2)
    rw [if_neg];intro hh;have h1:Nat.mod k 2=k%2:=rfl;have h2:Nat.mod i 2=i%2:=rfl;omega
   rw [hm] at h ⊢;cases j with
   | zero=>rw [if_neg (by omega)];rfl
   | succ k=>
    show (T.nd l y (r.put (Nat.div i 2) v)).get (k+1)=_;rw [hgj,hgj];rcases hmj with hk | hk<;>rw [show Nat.pred (k+1)=k from rfl] at hk<;>rw [hk]
    show l.get (Nat.div k 2)=if k+1=i+1 then some v else l.get (Nat.div k 2)
    rw [if_neg];intro hh;have h1:Nat.mod k 2=k%2:=rfl;have h2:Nat.mod i 2=i%2:=rfl;omega;show (r.put (Nat.div i 2) v).get (Nat.div k 2)=if k+1=i+1 then some v else r.get (Nat.div k 2)
    rw [hr _ x h v];have e:Nat.div k 2=Nat.div i 2↔k+1=i+1:=by have h1:Nat.mod k 2=k%2:=rfl;have h2:Nat.mod i 2=i%2:=rfl;have h3:Nat.div k 2=k / 2:=rfl;have h4:Nat.div i 2=i / 2:=rfl;omega
    by_cases hh:k+1=i+1;rw [if_pos hh,if_pos (e.2 hh)];rw [if_neg hh,if_neg λq=>hh (e.1 q)]
theorem Mem.xP {m:Mem}{i:Nat}{x:O9}(h:m.get i=some x)(y:O9)(j:Nat):(m.set i y).get j=if j=i then some y else m.get j:=T.xO m.t i h y j
theorem Mx (X:Nat->Nat×Inst):∀p,∃q,q<=p∧(q=0∨aB (X (q-1)).2=true)∧∀j,q<=j->j<p->aB (X j).2=false
 | 0=>⟨0,J2 _,.inl rfl,λj _ h=>by omega⟩
 | p+1=>by
  cases hE:aB (X p).2 with
  | true=>exact⟨p+1,J2 _,.inr hE,λj h1 h2=>by omega⟩
  | false=>obtain⟨q,h1,h2,h3⟩:=Mx X p;refine⟨q,by omega,h2,λj g1 g2=>?_⟩;by_cases hj:j=p;rw [hj];exact hE;exact h3 j g1 (by omega)
theorem Fixed.since (F:Fixed P slots nt cf b ops ord X S){q:Nat}{i:Nat}{y:O9}:∀d,q+d<=ord.length->(∀j,q<=j->j<q+d->aB (X j).2=false)->(S (q+d)).m.get i=some y->(S q).m.get i=some y∨∃p,q<=p∧p<q+d∧dN b X S p=some (i,y):=by
 intro d;induction d with
 | zero=>intro _ _ h;exact .inl h
 | succ d ih=>
  intro hd hE h;have hq:=F.quiet (p:=q+d) (by omega) (hE _ (by omega) (by omega));rw [show q+(d+1)=q+d+1 from rfl,hq] at h;cases hm:dN b X S (q+d) with
  | none=>rw [hm] at h;rcases ih (by omega) (λj h1 h2=>hE j h1 (by omega)) h with h | ⟨p,h1,h2,h3⟩;exact .inl h;exact .inr ⟨p,h1,by omega,h3⟩
  | some z=>obtain⟨k,blk⟩:=z;rw [hm] at h;have hv:=(F.made (p:=q+d) (by omega) hm).2.2.2.1;have h:((S (q+d)).m.set k blk).get i=some y:=h;rw [Mem.xP hv] at h;by_cases hk:i=k;subst hk;rw [if_pos rfl] at h;cases h;exact .inr ⟨q+d,by omega,by omega,hm⟩;rw [if_neg hk] at h;rcases ih (by omega) (λj h1 h2=>hE j h1 (by omega)) h with h | ⟨p,h1,h2,h3⟩;exact .inl h;exact .inr ⟨p,h1,by omega,h3⟩
end
section
variable {P:Program}{G:Mem}{slots:List Nat}{nt:Nat}{cf:F4}{b:Nat}{ops:Array Oper}{ord:List Nat}{X:Nat->Nat×Inst}{S:Nat->DS}
structure Vb (b:Nat)(ord:List Nat)(X:Nat->Nat×Inst)(S:Nat->DS)(q:Nat)(L:Nat->Bool)(d:Nat):Prop where
 ok:T.Ok (aL b X S q L d).t (aL b X S q L d).nx
 nx:(aL b X S q L d).nx=(S q).m.nx
 lim:(aL b X S q L d).lim=(S q).m.lim
 later:∀p i blk,q+d<=p->p<ord.length->dN b X S p=some (i,blk)->(aL b X S q L d).get i=some .void
 from_:∀j y,(aL b X S q L d).get j=some y->(S q).m.get j=some y∨∃d',d'<d∧L (q+d')=true∧dN b X S (q+d')=some (j,y)
 laid:∀d' i blk,d'<d->L (q+d')=true->dN b X S (q+d')=some (i,blk)->(aL b X S q L d).get i=some blk
 sub:(S q).m.sub (aL b X S q L d)
theorem Fixed.Co (F:Fixed P slots nt cf b ops ord X S){q p:Nat}(hq:q=0∨aB (X (q-1)).2=true)(hqp:q<=p)(hp:p<ord.length){i:Nat}{blk:O9}(h:dN b X S p=some (i,blk)):(S q).m.get i=some .void:=by obtain⟨r,h1,_⟩:=F.gs hq (p-q) (by omega);rw [show q+(p-q)=p from by omega] at h1;exact (F.made hp h).2.2.2.2 _ (Y5 h1)
theorem Fixed.lay (F:Fixed P slots nt cf b ops ord X S){q:Nat}(hq:q=0∨aB (X (q-1)).2=true)(hok:T.Ok (S q).m.t (S q).m.nx)(L:Nat->Bool):∀d,q+d<=ord.length->Vb b ord X S q L d:=by
 intro d;induction d with
 | zero=>intro _;exact⟨hok,rfl,rfl,λp i blk h1 h2 h3=>F.Co hq (by omega) h2 h3,λj y h=>.inl h,λd' i blk h=>by omega,λi y h _=>h⟩
 | succ d ih=>
  intro hd;have H:=ih (by omega);cases hL:L (q+d) with
  | false=>
   have e:aL b X S q L (d+1)=aL b X S q L d:=by simp [aL,hL]
   refine⟨by rw [e];exact H.ok,by rw [e];exact H.nx,by rw [e];exact H.lim,λp i blk h1 h2 h3=>by rw [e];exact H.later p i blk (by omega) h2 h3,λj y h=>?_,λd' i blk h1 h2 h3=>?_,by rw [e];exact H.sub⟩;rw [e] at h;rcases H.from_ j y h with h | ⟨d',h1,h2⟩;exact .inl h;exact .inr ⟨d',by omega,h2⟩;by_cases hd':d'=d;subst hd';rw [hL] at h2;cases h2;rw [e];exact H.laid d' i blk (by omega) h2 h3
  | true=>
   cases hm:dN b X S (q+d) with
   | none=>have e:aL b X S q L (d+1)=aL b X S q L d:=(by simp [aL,hL,hm]);refine⟨by rw [e];exact H.ok,by rw [e];exact H.nx,by rw [e];exact H.lim,λp i blk h1 h2 h3=>by rw [e];exact H.later p i blk (by omega) h2 h3,λj y h=>?_,λd' i blk h1 h2 h3=>?_,by rw [e];exact H.sub⟩;rw [e] at h;rcases H.from_ j y h with h | ⟨d',h1,h2⟩;exact .inl h;exact .inr ⟨d',by omega,h2⟩;by_cases hd':d'=d;subst hd';rw [hm] at h3;cases h3;rw [e];exact H.laid d' i blk (by omega) h2 h3
   | some y=>obtain⟨i0,blk0⟩:=y;have e:aL b X S q L (d+1)=(aL b X S q L d).set i0 blk0:=(by simp [aL,hL,hm]);have hv:=H.later (q+d) i0 blk0 (J2 _) (by omega) hm;have hlt:=Mem.I8 H.ok hv;have hget:=Mem.Z0 H.ok hlt blk0;refine⟨by rw [e];exact H.ok.put i0 blk0 hlt,by rw [e];exact H.nx,by rw [e];exact H.lim,λp i blk h1 h2 h3=>?_,λj y h=>?_,λd' i blk h1 h2 h3=>?_,λi y h hy=>?_⟩;have hne:=F.Hq (p:=q+d) (q:=p) (by omega) h2 hm h3;rw [e,hget,if_neg (by omega)];exact H.later p i blk (by omega) h2 h3;rw [e,hget] at h;split at h;rename_i he;cases h;exact .inr ⟨d,by omega,hL,by rw [he];exact hm⟩;rcases H.from_ j y h with h | ⟨d',h1,h2⟩;exact .inl h;exact .inr ⟨d',by omega,h2⟩;by_cases hd':d'=d;subst hd';rw [hm] at h3;cases h3;rw [e,hget,if_pos rfl];have hne:=F.Hq (p:=q+d') (q:=q+d) (by omega) (by omega) h3 hm;rw [e,hget,if_neg (by omega)];exact H.laid d' i blk (by omega) h2 h3;have:=H.sub i y h hy;rw [e,hget,if_neg (λhe=>by rw [he,hv] at this;cases this;cases hy)];exact this
theorem Fixed.ze (F:Fixed P slots nt cf b ops ord X S){q:Nat}(hq:q=0∨aB (X (q-1)).2=true)(hok:T.Ok (S q).m.t (S q).m.nx){L L':Nat->Bool}{d d':Nat}(hd:d<=d')(hd':q+d'<=ord.length)
  (hL:∀k,k<d->L (q+k)=true->L' (q+k)=true) {j:Nat} (h:(aL b X S q L d).has j):(aL b X S q L' d').has j:=by
 obtain⟨y,h1,h2⟩:=h;have H:=F.lay hq hok L d (by omega);have H':=F.lay hq hok L' d' hd';rcases H.from_ j y h1 with h | ⟨k,h3,h4,h5⟩;exact⟨y,H'.sub j y h h2,h2⟩;exact⟨y,H'.laid k j y (by omega) (hL k h3 h4) h5,h2⟩
theorem Fixed.lay_all (F:Fixed P slots nt cf b ops ord X S){q:Nat}{L:Nat->Bool}:∀d,q+d<=ord.length->(∀k,k<d->L (q+k)=true∧aB (X (q+k)).2=false)->aL b X S q L d=(S (q+d)).m:=by
 intro d;induction d with
 | zero=>intro _ _;rfl
 | succ d ih=>
  intro hd h;obtain⟨h1,h2⟩:=h d (by omega);have e:=ih (by omega) λk hk=>h k (by omega);have hq:=F.quiet (p:=q+d) (by omega) h2;show (if L (q+d) then _ else _)=_;rw [h1,if_pos rfl,show q+(d+1)=q+d+1 from rfl,hq];cases dN b X S (q+d) with
  | none=>exact e
  | some y=>obtain⟨i,blk⟩:=y;simp only [];rw [e]
def Lp (ord:List Nat)(listed:Array Bool)(p:Nat):Bool:=match ord[p]? with
 | some i=>listed.getD i false
 | none=>false
structure ko (P:Program)(G:Mem)(b:Nat)(ops:Array Oper)(ord:List Nat)(X:Nat->Nat×Inst)(S:Nat->DS)(ι0:K4)(m0:Mem)(w0:World)(a0:Act)(listed:Array Bool)(a:Act)(w:World)(ι:K4)(q:Nat):Prop where
 hq:q<=ord.length
 head:q=0∨aB (X (q-1)).2=true
 low:∀p,p<q->Lp ord listed p=true
 high:∀p,q<=p->aB (X p).2=true->Lp ord listed p=false
 base:Step P G ι0 m0 w0 ι (S q).m w
 ext:∀d i blk,Lp ord listed (q+d)=true->dN b X S (q+d)=some (i,blk)->bP P ι ((aL b X S q (Lp ord listed) (d+1)).nm ι) w.heap (ι i) blk∧bQ blk=false∧
  (U2 blk=true->(w0.heap.size<=(ι i).b∧(ι i).spot=none)∧(∀j y,(S q).m.get j=some y->U2 y=true->(ι j).b≠(ι i).b)∧∀c e fz,w.heap[(ι i).b]?=some (.cells c e fz)->∀k,k<c.size->¬ (fz.1<=k∧k<fz.2))
 ext2:∀d d' i i' blk blk',d≠d'->Lp ord listed (q+d)=true->Lp ord listed (q+d')=true->dN b X S (q+d)=some (i,blk)->dN b X S (q+d')=some (i',blk')->U2 blk=true->U2 blk'=true->(ι i').b≠(ι i).b
 vals:∀d,Lp ord listed (q+d)=true->(rV S (q+d)).lt ((aL b X S q (Lp ord listed) (d+1)).nm ι)
 valsl:∀p,p<q->(rV S p).lt ((S q).m.nm ι)
 tw:∀p i o t,ord[p]?=some i->listed.getD i false=true->ops[i]?=some o->o.dst=some t->a.tmps.getD t undef=o8 ι (rV S p)
 tn:∀t,(∀i o,listed.getD i false=true->ops[i]?=some o->o.dst≠some t)->a.tmps.getD t undef=a0.tmps.getD t undef
 sz:a.tmps.size=a0.tmps.size
 defs:a.defers=a0.defers
 closed:jQ ops listed
 len:listed.size=ops.size
variable {ι0 ι:K4}{m0:Mem}{w0 w:World}{a0 a:Act}{listed:Array Bool}{q:Nat}
theorem ko.lay (F:Fixed P slots nt cf b ops ord X S)(hb:m0.lim<=b)(D:ko P G b ops ord X S ι0 m0 w0 a0 listed a w ι q):∀d,q+d<=ord.length->Step P G ι0 m0 w0 ι (aL b X S q (Lp ord listed) d) w:=by
 intro d;induction d with
 | zero=>intro _;exact D.base
 | succ d ih=>
  intro hd;have H:=ih (by omega);have LF:=F.lay D.head D.base.rm.ok (Lp ord listed) d (by omega);cases hL:Lp ord listed (q+d) with
  | false=>
   have e:aL b X S q (Lp ord listed) (d+1)=aL b X S q (Lp ord listed) d:=by simp [aL,hL]
   rw [e];exact H
  | true=>
   cases hm:dN b X S (q+d) with
   | none=>have e:aL b X S q (Lp ord listed) (d+1)=aL b X S q (Lp ord listed) d:=(by simp [aL,hL,hm]);rw [e];exact H
   | some y=>obtain⟨i,blk⟩:=y;have e:aL b X S q (Lp ord listed) (d+1)=(aL b X S q (Lp ord listed) d).set i blk:=(by simp [aL,hL,hm]);obtain⟨g1,g2,g3⟩:=D.ext d i blk hL hm;rw [e] at g1 ⊢;have hi:=(F.made (p:=q+d) (by omega) hm).1;refine H.add (LF.later (q+d) i blk (J2 _) (by omega) hm) (by rw [LF.lim,D.base.lim];omega) ⟨g1,g2,λhl j y hj hy hly=>?_,λhl=>(g3 hl).2.2,λhl=>(g3 hl).1.2⟩ λhl=>(g3 hl).1.1;rcases LF.from_ j y hy with hy | ⟨d',h1,h2,h3⟩;exact (g3 hl).2.1 j y hy hly;exact D.ext2 d d' i j blk y (by omega) hL h2 hm h3 hl hly
def vm (ord:List Nat)(S:Nat->DS)(listed:Array Bool)(p:Nat):j3:=if Lp ord listed p then rV S p else .undef
def Sd (ord:List Nat)(S:Nat->DS)(listed:Array Bool):Nat->List j3
 | 0=>[]
 | p+1=>vm ord S listed p::Sd ord S listed p
def zf (ord:List Nat)(X:Nat->Nat×Inst)(S:Nat->DS)(listed:Array Bool):Nat->T j3
 | 0=>(S 0).env
 | p+1=>bW (X p).2.dst (vm ord S listed p) (zf ord X S listed p)
def KI (ops:Array Oper)(ord:List Nat)(S:Nat->DS)(listed:Array Bool)(ι:K4)(a0:Act):Nat->Array Value
 | 0=>a0.tmps
 | p+1=>match (ord[p]?).bind λi=>(ops[i]?).bind (·.dst) with
  | some t=>(KI ops ord S listed ι a0 p).setIfInBounds t (o8 ι (vm ord S listed p))
  | none=>KI ops ord S listed ι a0 p
theorem jR:∀p,(KI ops ord S listed ι a0 p).size=a0.tmps.size
 | 0=>rfl
 | p+1=>by simp only [KI];split;simp [jR p];exact jR p
theorem MB (ops:Array Oper)(ord:List Nat)(p:Nat)(hp:p<ord.length):fV ops ord (p+1)=((ord[p]?).bind λi=>(ops[i]?).bind (·.dst))::fV ops ord p:=by unfold fV;rw [ad7 hp,ae1,List.reverse_append,J7 hp];rfl
theorem ko.st (F:Fixed P slots nt cf b ops ord X S)(hb:m0.lim<=b)(D:ko P G b ops ord X S ι0 m0 w0 a0 listed a w ι q)(hen:U7 ι0 (m0.nm ι0) slots (S 0).env a0.tmps)(hnt:nt<=a0.tmps.size)(d:Nat)(hd:q+d<=ord.length):
  ∀p,p<=q+d->St P ι ((aL b X S q (Lp ord listed) d).nm ι) slots (fV ops ord p) (Sd ord S listed p) (zf ord X S listed p) (KI ops ord S listed ι a0 p):=by
 have H:=D.lay F hb d hd;intro p;induction p with
 | zero=>intro _;refine⟨λt k hk=>by simp [fV,iG] at hk,H.env hen,H.rm.glob,H.rm.ghas⟩
 | succ p ih=>
  intro hp;have s:=ih (by omega);have hpl:p<ord.length:=by omega
  obtain⟨i,hi⟩:∃i,ord[p]?=some i:=⟨ord[p],J7 hpl⟩;obtain⟨o,ho,_,hdst,_⟩:=F.inst p i hi;have hv:(vm ord S listed p).lt ((aL b X S q (Lp ord listed) d).nm ι):=by unfold vm;split;rename_i hL;by_cases hpq:p<q;exact j3.O6 (Mem.ah (λj ⟨y,h1,h2⟩=>⟨y,(F.lay D.head D.base.rm.ok _ d hd).sub j y h1 h2,h2⟩) λ_ _=>rfl) _ (D.valsl p hpq);have:=D.vals (p-q) (by rw [show q+(p-q)=p from by omega];exact hL);rw [show q+(p-q)=p from by omega] at this;exact j3.O6 (Mem.ah (λj hj=>F.ze D.head D.base.rm.ok (by omega) hd (λ_ _ h=>h) hj) λ_ _=>rfl) _ this;trivial
  have hdone:fV ops ord (p+1)=o.dst::fV ops ord p:=by rw [MB ops ord p hpl,hi];simp [ho]
  have:=s.put o.dst (λt ht=>by rw [jR];exact Xb (F.din i o t ho ht) hnt) hv;rw [hdone];show St P ι _ slots _ (vm ord S listed p::Sd ord S listed p) (bW (X p).2.dst (vm ord S listed p) (zf ord X S listed p)) (KI ops ord S listed ι a0 (p+1));rw [hdst];have e:KI ops ord S listed ι a0 (p+1)=(match o.dst with | some t=>(KI ops ord S listed ι a0 p).setIfInBounds t (o8 ι (vm ord S listed p)) | none=>KI ops ord S listed ι a0 p):=by simp only [KI,hi,aei,ho]
  rw [e];exact this
theorem Qp (S:Nat->DS):∀(p k:Nat),k<p->(Sd ord S listed p)[k]?=some (vm ord S listed (p-1-k))
 | 0,k,h=>by omega
 | p+1,0,_=>by simp [Sd]
 | p+1,k+1,h=>by rw [Sd,ad4,Qp S p k (by omega),show p+1-1-(k+1)=p-1-k from by omega]
theorem Vd (F:Fixed P slots nt cf b ops ord X S){j:Nat}:∀p,p<=ord.length->(∀r,r<p->(X r).2.dst≠some j)->∀ls ls':List j3,F9 (.slot j) ls (zf ord X S listed p)=F9 (.slot j) ls' (S p).env:=by
 intro p;induction p with
 | zero=>intro _ _ ls ls';rfl
 | succ p ih=>intro hp h ls ls';obtain⟨_,h2⟩:=F.ls (p:=p) (by omega);rw [h2];show F9 (.slot j) ls (bW (X p).2.dst (vm ord S listed p) (zf ord X S listed p))=_;rw [Ef (h p (by omega)) _ ls ls,Ef (h p (by omega)) _ ls' ls'];exact ih (by omega) (λr hr=>h r (by omega)) ls ls'
theorem ko.WQ (F:Fixed P slots nt cf b ops ord X S)(D:ko P G b ops ord X S ι0 m0 w0 a0 listed a w ι q){p i:Nat}(hp:p<ord.length)(hdep:∀j,Ao ops i j->listed.getD j false=true){y:P6}(h:Mv ops ord X p i y):
  Sm id (S p).ls (S p).env (Sd ord S listed p) (zf ord X S listed p) y:=by
 show F9 y (Sd ord S listed p) (zf ord X S listed p)=F9 y (S p).ls (S p).env;cases y with
 | loc k=>
  obtain⟨j,h1,h2,h3⟩:=h;rw [Dv,Dv,Qp S p k h1,(F.len p (by omega)).2 k h1];have:Lp ord listed (p-1-k)=true:=by simp only [Lp,h2];exact hdep j h3
  simp [vm,this]
 | slot j=>exact Vd F p (by omega) h _ _
 | con c=>rfl
theorem zh {t:Nat}:∀p,(∀r i o,r<p->ord[r]?=some i->ops[i]?=some o->o.dst≠some t)->(KI ops ord S listed ι a0 p).getD t undef=a0.tmps.getD t undef:=by
 intro p;induction p with
 | zero=>intro _;rfl
 | succ p ih=>intro h;have:=ih λr i o hr=>h r i o (by omega);simp only [KI];split;rename_i t' ht;obtain⟨i,hi,ht⟩:=ac7.1 ht;obtain⟨o,ho,ht⟩:=ac7.1 ht;have hne:t'≠t:=λe=>h p i o (by omega) hi ho (by rw [ht,e]);rw [Xd,Y4 hne,← Xd];exact this;exact this
theorem El (F:Fixed P slots nt cf b ops ord X S)(hnt:nt<=a0.tmps.size){t r i:Nat}{o:Oper}(hr:ord[r]?=some i)(ho:ops[i]?=some o)(ht:o.dst=some t):∀p,r<p->(KI ops ord S listed ι a0 p).getD t undef=o8 ι (vm ord S listed r):=by
 intro p;induction p with
 | zero=>intro h;omega
 | succ p ih=>
  intro h;simp only [KI];by_cases hrp:r=p;subst hrp;simp only [hr,aei,ho,ht];rw [aU _ _ _ _ (by rw [jR];exact Xb (F.din i o t ho ht) hnt),if_pos rfl];have:=ih (by omega);split;rename_i t' ht';obtain⟨i',hi',ht'⟩:=ac7.1 ht';obtain⟨o',ho',ht'⟩:=ac7.1 ht';have hne:t'≠t:=λe=>by subst e;have:=F.dsts i i' o o' t' ho ho' ht ht';subst this;exact hrp ((aeb (J5.1 hr).1 F.nodup).1 (hr.trans hi'.symm))
  rw [Xd,Y4 hne,← Xd];exact this;exact this
theorem ko.looks (F:Fixed P slots nt cf b ops ord X S)(hnt:nt<=a0.tmps.size)(D:ko P G b ops ord X S ι0 m0 w0 a0 listed a w ι q){p i:Nat}{o:Oper}(hp:ord[p]?=some i)(ho:ops[i]?=some o)(hun:listed.getD i false=false)
  (hdep:∀j,Ao ops i j->listed.getD j false=true) {t:Nat} (ht:t∈xu ops o):a.tmps.getD t undef=(KI ops ord S listed ι a0 p).getD t undef:=by
 by_cases hw:∃j oj,ops[j]?=some oj∧oj.dst=some t∧j≠i;obtain⟨j,oj,hj,hjt,hji⟩:=hw;obtain⟨r,hr⟩:=aaS (F.all j (K9.1 hj).1);have hpl:=(J5.1 hp).1;rcases F.looks i o t ho ht j oj hj hji hjt with h | h;have hL:=hdep j h;have hrp:r<p:=by rcases afH r p with h1 | h1 | h1;exact h1;subst h1;rw [hp] at hr;exact absurd (Y7 hr).symm hji;exact absurd (dep_before F h hp hr) (by omega)
 rw [D.tw r j oj t hr hL hj hjt,El F hnt hr hj hjt p hrp];simp [vm,Lp,hr,hL];have hrp:p<r:=dep_before F h hr hp;have hnl:listed.getD j false=false:=by
  cases hl:listed.getD j false with
  | false=>rfl
  | true=>have:=h.listed D.closed (D.closed j · hl);rw [hun] at this;cases this
 rw [D.tn t ?_,zh p ?_];intro r' i' o' hr' hi' ho' e;have:=F.dsts j i' oj o' t hj ho' hjt e;subst this;have:r'=r:=(aeb (J5.1 hi').1 F.nodup).1 (hi'.trans hr.symm);omega;intro i' o' hl' ho' e;have:=F.dsts j i' oj o' t hj ho' hjt e;subst this;rw [hnl] at hl';cases hl';have hno:∀j oj,ops[j]?=some oj->oj.dst=some t->j=i:=λj oj hj hjt=>Classical.byContradiction λhne=>hw ⟨j,oj,hj,hjt,hne⟩;rw [D.tn t ?_,zh p ?_];intro r' i' o' hr' hi' ho' e;have:=hno i' o' ho' e;subst this;have:r'=p:=(aeb (J5.1 hi').1 F.nodup).1 (hi'.trans hp.symm);omega;intro i' o' hl' ho' e;have:=hno i' o' ho' e;subst this;rw [hun] at hl';cases hl'
where
 dep_before {P:Program} {slots:List Nat} {nt:Nat} {cf:F4} {b:Nat} {ops:Array Oper} {ord:List Nat} {X:Nat->Nat×Inst} {S:Nat->DS} (F:Fixed P slots nt cf b ops ord X S) {i j:Nat} (h:Ao ops i j):∀{p r:Nat},ord[p]?=some i->ord[r]?=some j->r<p:=by
  induction h with
  | @edge i o e ho he hb=>intro p r hp hr;obtain⟨q,h1,h2⟩:=F.edges p i o hp ho e he hb;have:q=r:=(aeb (J5.1 h2).1 F.nodup).1 (h2.trans hr.symm);omega
  | @more i o e j ho he hb _ ih=>intro p r hp hr;obtain⟨q,h1,h2⟩:=F.edges p i o hp ho e he hb;have:=ih h2 hr;omega
end
section
variable {P:Program}{G:Mem}{slots:List Nat}{nt:Nat}{cf:F4}{b:Nat}{ops:Array Oper}{ord:List Nat}{X:Nat->Nat×Inst}{S:Nat->DS}
variable {ι0 ι:K4}{m0:Mem}{w0 w:World}{a0 a:Act}{listed:Array Bool}{q:Nat}
theorem Step.rename {m:Mem}{ι1 ι2:K4}(hst:Step P G ι0 m0 w0 ι1 m w)(hext:∀i,m.has i->ι2 i=ι1 i):Step P G ι0 m0 w0 ι2 m w:=by
 have h:=hst.rm;have hnm:(m.nm ι1).le (m.nm ι2):=Mem.ah (λi hi=>hi) hext;have hlive:∀i x,m.get i=some x->U2 x=true->ι2 i=ι1 i:=λi x hx hl=>hext i (qB hx hl);refine⟨⟨h.ok,?_,?_,h.glim,h.limn,h.gle,h.base,h.ghas,λi hi=>by rw [hext i (h.ghas i hi)];exact h.glob i hi,λi x hx hl=>by rw [hlive i x hx hl];exact h.spot i x hx hl,h.gsz⟩,λi hi=>(hext i (hst.has i hi)).trans (hst.ext i hi),hst.has,hst.nx,hst.lim,hst.old,hst.size,hst.frame,?_,hst.os,hst.out,hst.tape⟩;intro i x hx;by_cases hv:bQ x=true;cases x<;>first | trivial | cases hv
 rw [hext i ⟨x,hx,by simpa using hv⟩];exact (h.blk i x hx).mono (n:=m.nm ι1) hext hnm λ_=>rfl;intro i x hi hx hl;have ho:=h.own i x hi hx hl;refine⟨λj y hj hy hly=>?_,λc e fz hc=>?_⟩;rw [hlive i x hx hl,hlive j y hy hly];exact ho.alone j y hj hy hly;rw [hlive i x hx hl] at hc;exact ho.free c e fz hc;rintro b ⟨i,x,hi,hx,hl,rfl⟩;rw [hlive i x hx hl];exact hst.own _ ⟨i,x,hi,hx,hl,rfl⟩
theorem uN {p:Nat}(h:Lp ord listed p=true):p<ord.length:=by unfold Lp at h;split at h;rename_i i hi;exact (J5.1 hi).1;cases h
theorem jB {p i:Nat}(hp:ord[p]?=some i):Lp ord listed p=listed.getD i false:=by simp [Lp,hp]
theorem ak (A:Array Bool)(i j:Nat)(hi:i<A.size):(A.setIfInBounds i true).getD j false=if j=i then true else A.getD j false:=by rw [Xd,Xd];by_cases h:i=j;subst h;rw [if_pos rfl,Z4 hi];rfl;rw [if_neg (λe=>h e.symm),Y4 h]
theorem OU (hnd:ord.Nodup){p i:Nat}(hp:ord[p]?=some i)(hi:i<listed.size)(r:Nat):Lp ord (listed.setIfInBounds i true) r=if r=p then true else Lp ord listed r:=by
 by_cases hr:r=p;subst hr;rw [jB hp,ak _ _ _ hi,if_pos rfl,if_pos rfl];rw [if_neg hr];unfold Lp;cases hj:ord[r]? with
 | none=>rfl
 | some j=>show (listed.setIfInBounds i true).getD j false=_;rw [ak _ _ _ hi,if_neg];intro e;subst e;exact hr ((aeb (J5.1 hj).1 hnd).1 (hj.trans hp.symm))
theorem ko.aa4 (F:Fixed P slots nt cf b ops ord X S)(hnt:nt<=a0.tmps.size)(D:ko P G b ops ord X S ι0 m0 w0 a0 listed a w ι q){p i:Nat}{o:Oper}(hp:ord[p]?=some i)(ho:ops[i]?=some o){ι':K4}
  (hc:∀r,Lp ord listed r=true->o8 ι' (rV S r)=o8 ι (rV S r)):
  (∀r j o' t,ord[r]?=some j->(listed.setIfInBounds i true).getD j false=true->ops[j]?=some o'->o'.dst=some t->(a.put o.dst (o8 ι' (rV S p))).tmps.getD t undef=o8 ι' (rV S r))∧
  (∀t,(∀j o',(listed.setIfInBounds i true).getD j false=true->ops[j]?=some o'->o'.dst≠some t)->(a.put o.dst (o8 ι' (rV S p))).tmps.getD t undef=a0.tmps.getD t undef)∧
  (a.put o.dst (o8 ι' (rV S p))).tmps.size=a0.tmps.size∧(a.put o.dst (o8 ι' (rV S p))).defers=a0.defers:=by
 have hi:i<listed.size:=by rw [D.len];exact (K9.1 ho).1
 refine⟨λr j o' t hr hl hj ht=>?_,λt h=>?_,by rw [bJ];exact D.sz,by rw [(iA a o.dst _).2];exact D.defs⟩;rw [(iA a o.dst _).1];rw [ak _ _ _ hi] at hl;by_cases hji:j=i;subst hji;rw [ho] at hj;cases hj;have:r=p:=(aeb (J5.1 hr).1 F.nodup).1 (hr.trans hp.symm);subst this;rw [ht];show (a.tmps.setIfInBounds t _).getD t undef=_;rw [aU _ _ _ _ (by rw [D.sz];exact Xb (F.din _ o t ho ht) hnt),if_pos rfl];rw [if_neg hji] at hl;have h1:=D.tw r j o' t hr hl hj ht;rw [hc r (by rw [jB hr];exact hl),← h1];cases hd:o.dst with
 | none=>rfl
 | some t'=>have hne:t'≠t:=λe=>hji (F.dsts j i o' o t hj ho ht (by rw [hd,e]));show (a.tmps.setIfInBounds t' _).getD t undef=_;rw [Xd,Y4 hne,← Xd]
 rw [(iA a o.dst _).1];have hnot:=h i o (by rw [ak _ _ _ hi,if_pos rfl]) ho;have h1:=D.tn t λj o' hl hj=>h j o' (by rw [ak _ _ _ hi];split<;>simp_all) hj
 rw [← h1];cases hd:o.dst with
 | none=>rfl
 | some t'=>have hne:t'≠t:=λe=>hnot (by rw [hd,e]);show (a.tmps.setIfInBounds t' _).getD t undef=_;rw [Xd,Y4 hne,← Xd]
theorem ko.closed' (D:ko P G b ops ord X S ι0 m0 w0 a0 listed a w ι q){i:Nat}{o:Oper}(ho:ops[i]?=some o)(hr:∀e∈o.after,Region.binds .any e=true->listed.getD e.on false=true):
  jQ ops (listed.setIfInBounds i true):=by
 have hi:i<listed.size:=by rw [D.len];exact (K9.1 ho).1
 intro j oj hj hoj e he hb;rw [ak _ _ _ hi] at hj ⊢;by_cases hji:j=i;subst hji;rw [ho] at hoj;cases hoj;rw [hr e he hb];split<;>rfl
 rw [if_neg hji] at hj;rw [D.closed j oj hj hoj e he hb];split<;>rfl
theorem ko.quiet (F:Fixed P slots nt cf b ops ord X S)(hnt:nt<=a0.tmps.size)(D:ko P G b ops ord X S ι0 m0 w0 a0 listed a w ι q){d i:Nat}{o:Oper}(hp:ord[q+d]?=some i)(ho:ops[i]?=some o)(hun:listed.getD i false=false)
  (hr:∀e∈o.after,Region.binds .any e=true->listed.getD e.on false=true) (hE:aB (X (q+d)).2=false) {ι':K4} {w':World} (hst:Step P G ι (S q).m w ι' (S q).m w') (hheap:∀k,k<w.heap.size->w'.heap[k]?=w.heap[k]?)
  (hι:∀j,(∀blk,dN b X S (q+d)≠some (j,blk))->ι' j=ι j)
  (hblk:∀id blk,dN b X S (q+d)=some (id,blk)->bP P ι' ((aL b X S q (Lp ord (listed.setIfInBounds i true)) (d+1)).nm ι') w'.heap (ι' id) blk∧bQ blk=false∧
   (U2 blk=true->((ι' id).b=w.heap.size∧(ι' id).spot=none)∧∀c e fz,w'.heap[(ι' id).b]?=some (.cells c e fz)->∀k,k<c.size->¬ (fz.1<=k∧k<fz.2)))
  (hV:(rV S (q+d)).lt ((aL b X S q (Lp ord (listed.setIfInBounds i true)) (d+1)).nm ι')):
  ko P G b ops ord X S ι0 m0 w0 a0 (listed.setIfInBounds i true) (a.put o.dst (o8 ι' (rV S (q+d)))) w' ι' q:=by
 have hi:i<listed.size:=by rw [D.len];exact (K9.1 ho).1
 have hpl:q+d<ord.length:=(J5.1 hp).1;have hLs:=OU (listed:=listed) F.nodup hp hi;have hLmono:∀r,Lp ord listed r=true->Lp ord (listed.setIfInBounds i true) r=true:=λr hL=>by rw [hLs];split<;>simp [hL]
 have hLn:Lp ord listed (q+d)=false:=by rw [jB hp];exact hun
 have hnames:∀d',q+d'<=ord.length->∀j,(aL b X S q (Lp ord listed) d').has j->ι' j=ι j:=by intro d' hd' j hj;refine hι j λblk hm=>?_;obtain⟨y,h1,h2⟩:=hj;have hv:=F.Co D.head (Nat.le_add_right q d) hpl hm;rcases (F.lay D.head D.base.rm.ok (Lp ord listed) d' hd').from_ j y h1 with h | ⟨d3,h3,h4,h5⟩;rw [hv] at h;cases h;cases h2;rcases afH d d3 with h6 | h6 | h6;have:=F.Hq (p:=q+d) (q:=q+d3) (by omega) (uN h4) hm h5;omega;subst h6;rw [hLn] at h4;cases h4;have:=F.Hq (p:=q+d3) (q:=q+d) (by omega) hpl h5 hm;omega
 have hle:∀d',q+d'<=ord.length->((aL b X S q (Lp ord listed) d').nm ι).le ((aL b X S q (Lp ord (listed.setIfInBounds i true)) d').nm ι'):=λd' hd'=>Mem.ah (λj hj=>F.ze D.head D.base.rm.ok (J2 _) hd' (λk _ h=>hLmono _ h) hj) (hnames d' hd');have hext:∀d' id blk,d'≠d->Lp ord listed (q+d')=true->dN b X S (q+d')=some (id,blk)->ι' id=ι id∧(U2 blk=true->(ι id).b<w.heap.size):=by intro d' id blk hne hL hm;have hl:=uN hL;obtain⟨g1,g2,_⟩:=D.ext d' id blk hL hm;refine⟨hnames (d'+1) (by omega) id ⟨blk,(F.lay D.head D.base.rm.ok _ (d'+1) (by omega)).laid d' id blk (by omega) hL hm,g2⟩,λhlv=>dD g1 hlv⟩
 have hne:∀d',Lp ord (listed.setIfInBounds i true) (q+d')=true->d'≠d->Lp ord listed (q+d')=true:=λd' h hd=>by rw [hLs,if_neg (by omega)] at h;exact h
 have hvals:∀r,Lp ord listed r=true->o8 ι' (rV S r)=o8 ι (rV S r):=by intro r hL;have hl:=uN hL;by_cases hrq:r<q;exact Q0 (n:=(S q).m.nm ι) hst.ext _ (D.valsl r hrq);have:=D.vals (r-q) (by rw [show q+(r-q)=r from by omega];exact hL);rw [show q+(r-q)=r from by omega] at this;exact Q0 (n:=(aL b X S q (Lp ord listed) (r-q+1)).nm ι) (hnames _ (by omega)) _ this
 obtain⟨t1,t2,t3,t4⟩:=D.aa4 F hnt hp ho hvals;refine⟨D.hq,D.head,λp hpq=>hLmono p (D.low p hpq),λp hqp he=>?_,D.base.trans hst,?_,?_,?_,λp hpq=>?_,t1,t2,t3,t4,D.closed' ho hr,by simpa using D.len⟩;rw [hLs,if_neg (λe=>by rw [e,hE] at he;cases he)];exact D.high p hqp he;intro d' id blk hL hm;by_cases hd:d'=d;subst hd;obtain⟨g1,g2,g3⟩:=hblk id blk hm;refine⟨g1,g2,λhlv=>⟨⟨by rw [(g3 hlv).1.1];exact D.base.size,(g3 hlv).1.2⟩,λj y hj hly=>?_,(g3 hlv).2⟩⟩;rw [(g3 hlv).1.1,hst.ext j (qB hj hly)];have:=dD (D.base.rm.blk j y hj) hly;omega;have hL:=hne d' hL hd;have hl:=uN hL;obtain⟨g1,g2,g3⟩:=D.ext d' id blk hL hm;obtain⟨e1,e2⟩:=hext d' id blk hd hL hm;rw [e1];refine⟨g1.mono (hnames _ (by omega)) (hle _ (by omega)) λhlv=>hheap _ (e2 hlv),g2,λhlv=>⟨(g3 hlv).1,λj y hj hly=>?_,λc e fz hc=>?_⟩⟩;rw [hst.ext j (qB hj hly)];exact (g3 hlv).2.1 j y hj hly;rw [hheap _ (e2 hlv)] at hc;exact (g3 hlv).2.2 c e fz hc;intro d1 d2 i1 i2 b1 b2 hd12 hL1 hL2 hm1 hm2 hl1 hl2;by_cases h1:d1=d;subst h1;have hL2:=hne d2 hL2 (λe=>hd12 e.symm);obtain⟨e1,e2⟩:=hext d2 i2 b2 (λe=>hd12 e.symm) hL2 hm2;rw [((hblk i1 b1 hm1).2.2 hl1).1.1,e1];have:=e2 hl2;omega;have hL1:=hne d1 hL1 h1;obtain⟨e1,e2⟩:=hext d1 i1 b1 h1 hL1 hm1;by_cases h2:d2=d;subst h2;rw [((hblk i2 b2 hm2).2.2 hl2).1.1,e1];have:=e2 hl1;omega;have hL2:=hne d2 hL2 h2;rw [e1,(hext d2 i2 b2 h2 hL2 hm2).1];exact D.ext2 d1 d2 i1 i2 b1 b2 hd12 hL1 hL2 hm1 hm2 hl1 hl2;intro d' hL;by_cases hd:d'=d;subst hd;exact hV;have hL:=hne d' hL hd;exact j3.O6 (hle _ (by have:=uN hL;omega)) _ (D.vals d' hL);exact j3.O6 (Mem.ah (λj hj=>hj) hst.ext) _ (D.valsl p hpq)
theorem ko.effect (F:Fixed P slots nt cf b ops ord X S)(hb:m0.lim<=b)(hnt:nt<=a0.tmps.size)(D:ko P G b ops ord X S ι0 m0 w0 a0 listed a w ι q){d i:Nat}{o:Oper}(hp:ord[q+d]?=some i)(ho:ops[i]?=some o)(hun:listed.getD i false=false)
  (hr:∀e∈o.after,Region.binds .any e=true->listed.getD e.on false=true) (hE:aB (X (q+d)).2=true) (hall:∀k,k<d->Lp ord listed (q+k)=true) {ι':K4} {w':World} (hst:Step P G ι (S (q+d)).m w ι' (S (q+d+1)).m w')
  (hV:(rV S (q+d)).lt ((S (q+d+1)).m.nm ι')):
  ∃ι'',o8 ι'' (rV S (q+d))=o8 ι' (rV S (q+d))∧ko P G b ops ord X S ι0 m0 w0 a0 (listed.setIfInBounds i true) (a.put o.dst (o8 ι'' (rV S (q+d)))) w' ι'' (q+d+1):=by
 have hi:i<listed.size:=by rw [D.len];exact (K9.1 ho).1
 have hpl:q+d<ord.length:=(J5.1 hp).1;have hLs:=OU (listed:=listed) F.nodup hp hi;have hLmono:∀r,Lp ord listed r=true->Lp ord (listed.setIfInBounds i true) r=true:=λr hL=>by rw [hLs];split<;>simp [hL]
 have hLn:Lp ord listed (q+d)=false:=by rw [jB hp];exact hun
 have hnoE:∀k,k<d->aB (X (q+k)).2=false:=λk hk=>by
  cases he:aB (X (q+k)).2 with
  | false=>rfl
  | true=>have h1:=D.high (q+k) (by omega) he;rw [hall k hk] at h1;cases h1
 have hmem:=F.lay_all (L:=Lp ord listed) d (by omega) λk hk=>⟨hall k hk,hnoE k hk⟩;have hbase:=D.lay F hb d (by omega);rw [hmem] at hbase;have LFd:=F.lay D.head D.base.rm.ok (Lp ord listed) d (by omega);have Lsub:=LFd.sub;have Llaid:=LFd.laid;have Lfrom:=LFd.from_;rw [hmem] at Lsub Llaid Lfrom;have hmkE:dN b X S (q+d)=none:=by
  cases hm:dN b X S (q+d) with
  | none=>rfl
  | some y=>obtain⟨j,blk⟩:=y;obtain⟨_,⟨o',h1,_⟩,_⟩:=F.made hpl hm;simp [aB,h1] at hE
 let E:Nat->Prop:=λk=>∃p blk,q+d<p∧Lp ord listed p=true∧dN b X S p=some (k,blk)
 have hhead':q+d+1=0∨aB (X (q+d+1-1)).2=true:=.inr (by rw [aiC];exact hE);have hvoid:∀k,E k->(S (q+d+1)).m.get k=some .void:=by rintro k ⟨p,blk,h1,h2,h3⟩;exact F.Co hhead' (by omega) (uN h2) h3
 classical
 let ι'':K4:=λk=>if E k then ι k else ι' k
 have hE1:∀k,E k->ι'' k=ι k:=λk hk=>if_pos hk;have hE2:∀k,(S (q+d+1)).m.has k->ι'' k=ι' k:=λk ⟨y,h1,h2⟩=>if_neg λhk=>by rw [hvoid k hk] at h1;cases h1;cases h2
 have hst':Step P G ι0 m0 w0 ι'' (S (q+d+1)).m w':=(hbase.trans hst).rename hE2;have hstι:Step P G ι (S (q+d)).m w ι'' (S (q+d+1)).m w':=hst.rename hE2;have hok':=hst'.rm.ok;have hc:=Q0 (n:=(S (q+d+1)).m.nm ι') (ι:=ι') (ι':=ι'') hE2 _ hV;have hnames:∀d',q+d'<=ord.length->∀j,(aL b X S q (Lp ord listed) d').has j->ι'' j=ι j∧((S (q+d+1)).m.has j∨∃p blk,q+d<p∧p<q+d'∧Lp ord listed p=true∧dN b X S p=some (j,blk)∧bQ blk=false):=by intro d' hd' j ⟨y,h1,h2⟩;have hsub:(S (q+d)).m.has j->ι'' j=ι j∧(S (q+d+1)).m.has j:=λhj=>⟨hstι.ext j hj,hstι.has j hj⟩;rcases (F.lay D.head D.base.rm.ok (Lp ord listed) d' hd').from_ j y h1 with h | ⟨d3,h3,h4,h5⟩;obtain⟨e1,e2⟩:=hsub ⟨y,Lsub j y h h2,h2⟩;exact⟨e1,.inl e2⟩;rcases afH d3 d with h6 | h6 | h6;obtain⟨e1,e2⟩:=hsub ⟨y,Llaid d3 j y h6 h4 h5,h2⟩;exact⟨e1,.inl e2⟩;subst h6;rw [hLn] at h4;cases h4;exact⟨hE1 j ⟨q+d3,y,by omega,h4,h5⟩,.inr ⟨q+d3,y,by omega,by omega,h4,h5,h2⟩⟩
 have hle:∀d1 d2,q+d1=q+d+1+d2->q+d1<=ord.length->((aL b X S q (Lp ord listed) d1).nm ι).le ((aL b X S (q+d+1) (Lp ord (listed.setIfInBounds i true)) d2).nm ι''):=by intro d1 d2 hd hd1;refine Mem.ah (λj hj=>?_) λj hj=>(hnames d1 hd1 j hj).1;have LF':=F.lay hhead' hok' (Lp ord (listed.setIfInBounds i true)) d2 (by omega);rcases (hnames d1 hd1 j hj).2 with⟨y,h1,h2⟩ | ⟨p,blk,h1,h2,h3,h4,h5⟩;exact⟨y,LF'.sub j y h1 h2,h2⟩;refine⟨blk,LF'.laid (p-(q+d+1)) j blk (by omega) (by rw [show q+d+1+(p-(q+d+1))=p from by omega];exact hLmono p h3) (by rw [show q+d+1+(p-(q+d+1))=p from by omega];exact h4),h5⟩
 have hold:∀d2,Lp ord (listed.setIfInBounds i true) (q+d+1+d2)=true->Lp ord listed (q+(d+1+d2))=true:=λd2 h=>by rw [hLs,if_neg (by omega)] at h;rw [show q+(d+1+d2)=q+d+1+d2 from by omega];exact h
 have hnotown:∀d1 id blk,d<d1->Lp ord listed (q+d1)=true->dN b X S (q+d1)=some (id,blk)->U2 blk=true->(ι id).b<w.heap.size∧∀j y,(S (q+d)).m.get j=some y->U2 y=true->(ι j).b≠(ι id).b:=by intro d1 id blk hd1 hL hm hlv;obtain⟨g1,g2,g3⟩:=D.ext d1 id blk hL hm;refine⟨dD g1 hlv,λj y hj hly=>?_⟩;rcases Lfrom j y hj with h | ⟨d3,h3,h4,h5⟩;exact (g3 hlv).2.1 j y h hly;exact D.ext2 d1 d3 id j blk y (by omega) hL h4 hm h5 hlv hly
 have hframe:∀d1 id blk,d<d1->Lp ord listed (q+d1)=true->dN b X S (q+d1)=some (id,blk)->U2 blk=true->w'.heap[(ι id).b]?=w.heap[(ι id).b]?:=by intro d1 id blk hd1 hL hm hlv;obtain⟨g1,g2⟩:=hnotown d1 id blk hd1 hL hm hlv;exact hst.frame _ g1 λ⟨j,y,_,hj,hly,e⟩=>g2 j y hj hly e
 have hvals:∀r,Lp ord listed r=true->o8 ι'' (rV S r)=o8 ι (rV S r):=by intro r hL;have hl:=uN hL;by_cases hrq:r<q;have h1:=D.valsl r hrq;exact Q0 (n:=(S q).m.nm ι) (λj hj=>(hnames 0 (by omega) j hj).1) _ h1;have:=D.vals (r-q) (by rw [show q+(r-q)=r from by omega];exact hL);rw [show q+(r-q)=r from by omega] at this;exact Q0 (n:=(aL b X S q (Lp ord listed) (r-q+1)).nm ι) (λj hj=>(hnames _ (by omega) j hj).1) _ this
 obtain⟨t1,t2,t3,t4⟩:=D.aa4 F hnt hp ho hvals;refine⟨ι'',hc,by omega,hhead',λp hpq=>?_,λp hqp he=>?_,hst',?_,?_,?_,λp hpq=>?_,t1,t2,t3,t4,D.closed' ho hr,by simpa using D.len⟩;rw [hLs];split;rfl;by_cases h:p<q;exact D.low p h;have:=hall (p-q) (by omega)
 rwa [show q+(p-q)=p from by omega] at this
 rw [hLs,if_neg (by omega)];exact D.high p (by omega) he;intro d2 id blk hL hm;have hL:=hold d2 hL;have hm':dN b X S (q+(d+1+d2))=some (id,blk):=by rw [show q+(d+1+d2)=q+d+1+d2 from by omega];exact hm
 have hl:=uN hL;obtain⟨g1,g2,g3⟩:=D.ext (d+1+d2) id blk hL hm';have e1:ι'' id=ι id:=hE1 id ⟨q+(d+1+d2),blk,by omega,hL,hm'⟩;rw [e1];refine⟨g1.mono (λj hj=>(hnames _ (by omega) j hj).1) (hle (d+1+d2+1) (d2+1) (by omega) (by omega)) λhlv=>hframe _ id blk (by omega) hL hm' hlv,g2,λhlv=>⟨(g3 hlv).1,λj y hj hly=>?_,λc e fz hcc=>?_⟩⟩;obtain⟨n1,n2⟩:=hnotown (d+1+d2) id blk (by omega) hL hm' hlv;rw [hE2 j (qB hj hly)];by_cases hjl:(S (q+d)).m.lim<=j;rcases hst.own _ ⟨j,y,by rw [hst.lim];exact hjl,hj,hly,rfl⟩ with⟨j',y',_,hj',hly',e⟩ | h;rw [← e];exact n2 j' y' hj' hly';omega;have hj':(S (q+d)).m.get j=some y:=by rw [← hst.old j (by omega)];exact hj
 rw [hst.ext j (qB hj' hly)];exact n2 j y hj' hly;rw [hframe _ id blk (by omega) hL hm' hlv] at hcc;exact (g3 hlv).2.2 c e fz hcc;intro d1 d2 i1 i2 b1 b2 hd12 hL1 hL2 hm1 hm2 hl1 hl2;have hL1:=hold d1 hL1;have hL2:=hold d2 hL2;rw [show q+d+1+d1=q+(d+1+d1) from by omega] at hm1;rw [show q+d+1+d2=q+(d+1+d2) from by omega] at hm2;rw [hE1 i1 ⟨_,b1,by omega,hL1,hm1⟩,hE1 i2 ⟨_,b2,by omega,hL2,hm2⟩];exact D.ext2 (d+1+d1) (d+1+d2) i1 i2 b1 b2 (by omega) hL1 hL2 hm1 hm2 hl1 hl2;intro d2 hL;have hL:=hold d2 hL;have hl:=uN hL;have:=D.vals (d+1+d2) hL;rw [show q+(d+1+d2)=q+d+1+d2 from by omega] at this;exact j3.O6 (hle (d+1+d2+1) (d2+1) (by omega) (by omega)) _ this;by_cases h:p=q+d;subst h;exact j3.O6 (Mem.ah (λj hj=>hj) hE2) _ hV;by_cases hpq':p<q;refine j3.O6 (Mem.ah (λj ⟨y,h1,h2⟩=>?_) λj hj=>(hnames 0 (by omega) j hj).1) _ (D.valsl p hpq');exact hstι.has j ⟨y,Lsub j y h1 h2,h2⟩;have:=D.vals (p-q) (by have:=hall (p-q) (by omega);exact this);rw [show q+(p-q)=p from by omega] at this;refine j3.O6 (Mem.ah (λj hj=>?_) λj hj=>(hnames _ (by omega) j hj).1) _ this;have h2:=F.ze D.head D.base.rm.ok (L:=Lp ord listed) (L':=Lp ord listed) (d:=p-q+1) (d':=d) (by omega) (by omega) (λ_ _ h=>h) hj;rw [hmem] at h2;exact hstι.has j h2
end
section
variable {P:Program}{G:Mem}{slots:List Nat}{nt:Nat}{cf:F4}{b:Nat}{ops:Array Oper}{ord:List Nat}{X:Nat->Nat×Inst}{S:Nat->DS}
variable {ι0 ι:K4}{m0:Mem}{w0 w:World}{a0 a:Act}{listed:Array Bool}{q:Nat}
theorem Ap {A B:Array Value}(hs:A.size=B.size){t:Nat}(h:A.getD t undef=B.getD t undef):A[t]?=B[t]?:=by
 by_cases ht:t<A.size;have ht':t<B.size:=by omega
 rw [aaG ht,aaG ht'];simp only [Array.getD,ht,ht',dif_pos] at h;rw [show A.getInternal t ht=A[t] from rfl,show B.getInternal t ht'=B[t] from rfl] at h;rw [h];rw [aif (ae7 ht),aif (by omega)]
theorem Hr {a a':Act}{o:Oper}(h:∀t∈xu ops o,a.tmps.getD t undef=a'.tmps.getD t undef):∀x∈o.op.operands,a.eval x=a'.eval x:=by
 intro x hx;cases x with
 | tmp t=>exact h t (ad6 _ (List.mem_filterMap.2 ⟨.tmp t,by simpa using hx,rfl⟩))
 | _=>rfl
theorem Bq {A B:Array Value}(hs:A.size=B.size){o:Oper}(h:∀t∈xu ops o,A.getD t undef=B.getD t undef):Region.wanted o (yielded ops A)=Region.wanted o (yielded ops B):=by
 unfold Region.wanted;cases hg:o.guard with
 | none=>rfl
 | some p=>
  obtain⟨g,want⟩:=p;have:yielded ops A g=yielded ops B g:=by
   unfold yielded;cases ht:(ops[g]?).bind (·.dst) with
   | none=>rfl
   | some t=>have:=Ap hs (h t (aef _ (by simp [hg,ht])));simp [this]
  simp only [this]
theorem XP (o:TH):jY id o=o:=by cases o<;>simp [jY]
theorem XQ (o:Oc):zW id o=o:=by cases o<;>simp [zW]
theorem XR (o:Rh):Jg id o=o:=by cases o<;>simp [Jg]
theorem XT (o:TI):sU id o=o:=by cases o<;>simp [sU]
theorem ji {op:Op}{done:List (Option Nat)}{ao:yw}(h:fO P slots done op=some ao):∀cs bl,op≠.select cs bl:=by rintro cs bl rfl;cases h
theorem ajk {ls ls':List j3}{env env':T j3}{o:TH}(h:∀x∈gG o,Sm id ls env ls' env' x):nk o ls' env'=nk o ls env:=by have:=GU h;rwa [XP] at this
theorem ajl {ls ls':List j3}{env env':T j3}{o:Oc}(h:∀x∈ay o,Sm id ls env ls' env' x)(m:Mem):ru o ls' env' m=ru o ls env m:=by have:=GV h m;rwa [XQ] at this
theorem ajm {ls ls':List j3}{env env':T j3}{o:Rh}(h:∀x∈opsL o,Sm id ls env ls' env' x)(i:Nat):wH o ls' env' i=wH o ls env i:=by have:=GX h i;rwa [XR] at this
theorem aex {ls ls':List j3}{env env':T j3}{o:TI}(h:∀x∈opsE o,Sm id ls env ls' env' x)(cf:F4)(m:Mem):nu o cf ls' env' m=nu o cf ls env m:=by have:=GY h cf m;rwa [XT] at this
theorem Br {a a':Act}{o:Oper}(h:execOp a.eval o=execOp a'.eval o){w:World}{R:Ending->World->Prop}(hd:kC P a'.eval o w R):kC P a.eval o w R:=by unfold kC at *;rw [h];exact hd
theorem Sg {M:Nat}(F:Fixed P slots nt cf b ops ord X S)(hM:M<=ord.length)(hall:∀p,p<M->Lp ord listed p=true):∀p,p<=M->zf ord X S listed p=(S p).env:=by
 intro p;induction p with
 | zero=>intro _;rfl
 | succ p ih=>intro hp;obtain⟨_,h2⟩:=F.ls (p:=p) (by omega);rw [h2,← ih (by omega)];show bW (X p).2.dst (vm ord S listed p) _=_;simp [vm,hall p (by omega)]
theorem U7.Qq {ι:K4}{n:Nm}{env:T j3}{A B:Array Value}(h:U7 ι n slots env A)(hs:A.size=B.size)(he:∀t,A.getD t undef=B.getD t undef):U7 ι n slots env B:=
 ⟨h.ok,h.small,λt j ht=>by
  obtain⟨h1,v,h2,h3,h4⟩:=h.val t j ht;exact⟨by omega,v,h2,h3,by rw [← he];exact h4⟩⟩
theorem Ve {v:j3}(h:AY v=true)(n:Nm):v.lt n:=by cases v<;>first | trivial | cases h
def MC (ord:List Nat)(X:Nat->Nat×Inst)(S:Nat->DS)(listed:Array Bool)(N:Nat):Nat->T j3
 | 0=>(S N).env
 | k+1=>if Lp ord listed (N+1+k) then bW (X (N+1+k)).2.dst (rV S (N+1+k)) (MC ord X S listed N k) else MC ord X S listed N k
def xt (ops:Array Oper)(ord:List Nat)(S:Nat->DS)(listed:Array Bool)(ι:K4)(B:Array Value)(N:Nat):Nat->Array Value
 | 0=>B
 | k+1=>if Lp ord listed (N+1+k) then (match (ord[N+1+k]?).bind λi=>(ops[i]?).bind (·.dst) with
  | some t=>(xt ops ord S listed ι B N k).setIfInBounds t (o8 ι (rV S (N+1+k)))
  | none=>xt ops ord S listed ι B N k) else xt ops ord S listed ι B N k
theorem zi {B:Array Value}{N:Nat}:∀k,(xt ops ord S listed ι B N k).size=B.size
 | 0=>rfl
 | k+1=>by rw [xt];split;split;rw [aiU,zi k];exact zi k;exact zi k
theorem JG {B:Array Value}{N t:Nat}:∀k,(∀r i o,N<r->r<N+1+k->ord[r]?=some i->ops[i]?=some o->Lp ord listed r=true->o.dst≠some t)->(xt ops ord S listed ι B N k).getD t undef=B.getD t undef
 | 0,_=>rfl
 | k+1,h=>by have ih:=JG (B:=B) k λr i o h1 h2=>h r i o h1 (by omega);rw [xt];split;rename_i hl;split;rename_i t' ht';obtain⟨i,hi,ht'⟩:=ac7.1 ht';obtain⟨o,ho,ht'⟩:=ac7.1 ht';have hne:t'≠t:=λe=>h (N+1+k) i o (by omega) (by omega) hi ho hl (by rw [ht',e]);rw [← ih];simp only [Xd];rw [Y4 hne];exact ih;exact ih
theorem Qr {B:Array Value}{N t r i:Nat}{o:Oper}(F:Fixed P slots nt cf b ops ord X S)(htB:t<B.size)(hN:N<r)(hr:ord[r]?=some i)(ho:ops[i]?=some o)(hd:o.dst=some t)(hl:Lp ord listed r=true):∀k,r<N+1+k->(xt ops ord S listed ι B N k).getD t undef=o8 ι (rV S r)
 | 0,h=>by omega
 | k+1,h=>by
  by_cases hrk:r=N+1+k;subst hrk;rw [xt,if_pos hl,hr];simp only [aei,ho,hd];rw [Xd,Z4 (by rw [zi];exact htB)];rfl;have ih:=Qr (B:=B) F htB hN hr ho hd hl k (by omega);rw [xt];split;split;rename_i t' ht';obtain⟨i',hi',ht'⟩:=ac7.1 ht';obtain⟨o',ho',ht'⟩:=ac7.1 ht';have hne:t'≠t:=by rintro rfl;obtain rfl:=F.dsts i i' o o' t' ho ho' hd ht';have:=(aeb (J5.1 hr).1 F.nodup).1 (hr.trans hi'.symm);exact hrk this
  rw [← ih];simp only [Xd];rw [Y4 hne];exact ih;exact ih
theorem ko.mZ {r:Option Nat}(hcf:mU P G cf)(F:Fixed P slots nt cf b ops ord X S)(hb:m0.lim<=b)(hen:U7 ι0 (m0.nm ι0) slots (S 0).env a0.tmps)(hnt:nt<=a0.tmps.size)(D:ko P G b ops ord X S ι0 m0 w0 a0 listed a w ι q)
  {N i:Nat} {o:Oper} {eo:TI} {y:j3} {m':Mem} (hp:ord[N]?=some i) (ho:ops[i]?=some o) (hun:listed.getD i false=false) (hr:∀e∈o.after,Region.binds .any e=true->listed.getD e.on false=true)
  (hx:(X N).2.op=.e eo) (h1:Jf (X N).2.guard (nu eo) cf (S N).ls (S N).env (S N).m=some [⟨.mZ y,m'⟩]) (hna:∀p,N<p->p<ord.length->Lp ord listed p=true->(X p).2.dst.isSome=true->AY (rV S p)=true) {K:Act->World->Prop} {Q:Exit->Act->World->Prop}
  (hQ:∀ι' w',Step P G ι0 m0 w0 ι' m' w'->y.lt (m'.nm ι')->U7 ι' (m'.nm ι') slots (MC ord X S listed N (ord.length-(N+1))) a.tmps->Q (.panic [{v:=o8 ι' y,recovered:=false}]) a w'):wpOpIn (FR r) 0 P ops Q i K a w:=by
 have hi:i<listed.size:=by rw [D.len];exact (K9.1 ho).1
 have hpl:N<ord.length:=(J5.1 hp).1;have hqp:q<=N:=by rcases afs N q with h | h;have:=D.low N h;rw [jB hp,hun] at this;cases this;exact h
 obtain⟨d,rfl⟩:∃d,N=q+d:=⟨N-q,by omega⟩;have hdep:∀j,Ao ops i j->listed.getD j false=true:=λj hj=>hj.listed D.closed λo' ho' e he hbnd=>by rw [ho] at ho';cases ho';exact hr e he hbnd
 obtain⟨o',ho',hop,hdst,hg⟩:=F.inst (q+d) i hp;rw [ho] at ho';cases ho';have s:=D.st F hb hen hnt d (by omega) (q+d) (J2 _);let af:Act:={tmps:=KI ops ord S listed ι a0 (q+d),defers:=[]}
 have hlook:∀t∈xu ops o,a.tmps.getD t undef=af.tmps.getD t undef:=λt ht=>D.looks F hnt hp ho hun hdep ht;have hsz:a.tmps.size=af.tmps.size:=by rw [D.sz];exact jR _ |>.symm
 have hwant:=Bq hsz hlook;have hwg:=nG (tmps:=af.tmps) s hg;have hev:(∀cs bl,o.op≠.select cs bl)->execOp a.eval o=execOp af.eval o:=λhs=>execOp_congr o hs (Hr hlook);have hsm:∀y∈CV (X (q+d)).2.op,Sm id (S (q+d)).ls (S (q+d)).env (Sd ord S listed (q+d)) (zf ord X S listed (q+d)) y:=λy hy=>D.WQ F hpl hdep (F.WQ _ i hp y hy);have hbaseLay:=D.lay F hb d (by omega);have hguard:∀y wt,(X (q+d)).2.guard=some (y,wt)->F9 y (Sd ord S listed (q+d)) (zf ord X S listed (q+d))=F9 y (S (q+d)).ls (S (q+d)).env:=λy wt h=>D.WQ F hpl hdep (F.opdg _ i y wt hp h);have hwanted:Region.wanted o (yielded ops a.tmps)=sZ (X (q+d)).2.guard (S (q+d)).ls (S (q+d)).env:=by
  rw [hwant,hwg];cases hgd:(X (q+d)).2.guard with
  | none=>rfl
  | some z=>obtain⟨y,wt⟩:=z;simp only [sZ];rw [hguard y wt hgd]
 have hcop:∀{ao},(X (q+d)).2.op=ao->ao≠.e .bad->fO P slots (fV ops ord (q+d)) o.op=some ao:=by intro ao h1 h2;rw [hop] at h1;unfold jZ at h1;split at h1;rename_i a' ha;rw [ha,h1];exact absurd h1.symm h2
 have hE:aB (X (q+d)).2=true:=by simp [aB,hx]
 have hall:∀k,k<d->Lp ord listed (q+k)=true:=λk hk=>by
  have hkl:q+k<ord.length:=by omega
  have:=hdep _ (F.eff (q+d) i hp hE (q+k) _ (by omega) (J7 hkl));rw [jB (J7 hkl)];exact this
 have hnoE:∀k,k<d->aB (X (q+k)).2=false:=λk hk=>by
  cases he:aB (X (q+k)).2 with
  | false=>rfl
  | true=>have h1:=D.high (q+k) (by omega) he;rw [hall k hk] at h1;cases h1
 have hmem:=F.lay_all (L:=Lp ord listed) d (by omega) λk hk=>⟨hall k hk,hnoE k hk⟩;rw [hmem] at s hbaseLay;have hlow:∀p,p<q+d->Lp ord listed p=true:=λp h=>by
  by_cases hpq:p<q;exact D.low p hpq;have:=hall (p-q) (by omega)
  rwa [show q+(p-q)=p from by omega] at this
 have henv:U7 ι ((S (q+d)).m.nm ι) slots (MC ord X S listed (q+d) (ord.length-(q+d+1))) a.tmps:=by
  have he:=s.env;rw [Sg F (afz hpl) hlow (q+d) (J2 _)] at he;have hput:∀k,q+d+1+k<=ord.length->U7 ι ((S (q+d)).m.nm ι) slots (MC ord X S listed (q+d) k) (xt ops ord S listed ι (KI ops ord S listed ι a0 (q+d)) (q+d) k):=by
   intro k;induction k with
   | zero=>intro _;exact he
   | succ k ih=>
    intro hk;have ih:=ih (by omega);rw [MC,xt];cases hL:Lp ord listed (q+d+1+k) with
    | false=>rw [if_neg (by decide),if_neg (by decide)];exact ih
    | true=>
     rw [if_pos rfl,if_pos rfl];have hkl:q+d+1+k<ord.length:=(by omega);obtain⟨o2,ho2,_,hd2,_⟩:=F.inst _ _ (J7 hkl);rw [J7 hkl];simp only [aei,ho2];cases hds:(X (q+d+1+k)).2.dst with
     | none=>
      have hno:FM slots o2.dst=none:=(by rw [← hd2,hds]);refine⟨ih.ok,ih.small,λt j ht=>?_⟩;obtain⟨g1,v,g2,g3,g4⟩:=ih.val t j ht;cases hod:o2.dst with
      | none=>exact⟨g1,v,g2,g3,g4⟩
      | some t'=>rw [hod] at hno;have hno:idxOf t' slots 0=none:=hno;have hne:t'≠t:=λe=>(by rw [e,ht] at hno;cases hno);refine⟨by simpa using g1,v,g2,g3,?_⟩;rw [← g4];simp only [Xd];rw [Y4 hne]
     | some j=>have hv:(rV S (q+d+1+k)).lt ((S (q+d)).m.nm ι):=Ve (hna _ (by omega) hkl hL (by rw [hds];rfl)) _;have:=ih.put o2.dst hv;rw [← hds,hd2];exact this
  have hfin:=hput (ord.length-(q+d+1)) (by omega);refine hfin.Qq (by rw [zi,jR,D.sz]) λt=>?_;by_cases hw:∃(i':Nat) (oj:Oper),listed.getD i' false=true∧ops[i']?=some oj∧oj.dst=some t;obtain⟨i',oj,hl',hj,hjt⟩:=hw;obtain⟨p',hp'⟩:=aaS (F.all i' (K9.1 hj).1);have hpl':=(J5.1 hp').1;have hL':Lp ord listed p'=true:=by rw [jB hp'];exact hl'
  rw [D.tw p' i' oj t hp' hl' hj hjt];rcases afH p' (q+d) with hlt | heq | hgt;rw [JG _ λr2 i2 o2 h1 _ hr2 ho2 _ hd2=>?_,El F hnt hp' hj hjt (q+d) hlt];simp [vm,hL'];obtain rfl:=F.dsts i' i2 oj o2 t hj ho2 hjt hd2;have:=(aeb hpl' F.nodup).1 (hp'.trans hr2.symm);omega;subst heq;obtain rfl:=Y7 (hp'.symm.trans hp);rw [hun] at hl';cases hl';have htn:t<nt:=F.din i' oj t hj hjt;rw [Qr F (by rw [jR];omega) hgt hp' hj hjt hL' _ (by omega)];rw [D.tn t λi2 o2 hl2 ho2 ht2=>hw ⟨i2,o2,hl2,ho2,ht2⟩,JG _ λr2 i2 o2 _ _ hr2 ho2 hl2 hd2=>hw ⟨i2,o2,by rw [← jB hr2];exact hl2,ho2,hd2⟩];rw [zh (q+d) λr2 i2 o2 h2 hr2 ho2 ht2=>hw ⟨i2,o2,by have:=hlow r2 h2;rw [jB hr2] at this;exact this,ho2,ht2⟩]
 show wpOpIn (FR r) 0 P ops Q i K a w;unfold wpOpIn;simp only [ho];rw [hwanted];have run:nu eo cf (S (q+d)).ls (S (q+d)).env (S (q+d)).m=some [⟨.mZ y,m'⟩]->o.wpIn (FR r) 0 P a w K Q:=by
  intro h1;have hnb:yw.e eo≠.e .bad:=by intro h;cases h;cases h1
  have hc:=hcop hx hnb;rw [hx] at hsm;rw [← aex hsm] at h1;have:=Ak (a:=af) hcf s hbaseLay.rm hc h1 o rfl;refine mY (Ee (cf:=cf) hc h1) (Br (hev (ji hc)) this) ?_ ?_ λ_=>qm;rintro u w' (⟨_,hu,x,hxm,ι',g1,g2,rfl⟩ | ⟨_,_,_,_,_,_,_,h⟩);obtain rfl:=J3.1 hxm;exact g2.elim;cases h;rintro c w' (⟨_,hu,_⟩ | ⟨x,hxm,y',ι',hxy,g1,g2,g3⟩);cases hu;obtain rfl:=J3.1 hxm;cases hxy;cases g3;exact hQ ι' w' (hbaseLay.trans g1) g2 (g1.env henv)
 cases hgd:(X (q+d)).2.guard with
 | none=>rw [hgd] at h1;exact run h1
 | some z=>
  obtain⟨y',wt⟩:=z;rw [hgd] at h1;have h1:bi (oP wt (F9 y' (S (q+d)).ls (S (q+d)).env)) (nu eo cf (S (q+d)).ls (S (q+d)).env (S (q+d)).m) (one .undef (S (q+d)).m)=some [⟨.mZ y,m'⟩]:=h1;rw [show sZ (some (y',wt)) (S (q+d)).ls (S (q+d)).env=oP wt (F9 y' (S (q+d)).ls (S (q+d)).env) from rfl];cases hB:oP wt (F9 y' (S (q+d)).ls (S (q+d)).env) with
  | true=>rw [hB] at h1;exact run h1
  | false=>rw [hB] at h1;have h1:[(⟨.undef,(S (q+d)).m⟩:VM)]=[⟨.mZ y,m'⟩]:=Y7 h1;simp at h1
theorem JH {x:OF}{ls:List j3}{env:T j3}{M M':Mem}{id off len cp:Nat}(hx:x ls env=.slice id off len cp)(hg:M.get id=M'.get id):fK x ls env M=fK x ls env M':=by
 have h:X0 M id off len=X0 M' id off len:=by unfold X0;rw [hg]
 unfold fK;rw [hx];show ob (X0 M id off len) _=ob (X0 M' id off len) _;rw [h]
theorem ko.op {r:Option Nat}(hcf:mU P G cf)(F:Fixed P slots nt cf b ops ord X S)(hb:m0.lim<=b)(hen:U7 ι0 (m0.nm ι0) slots (S 0).env a0.tmps)(hnt:nt<=a0.tmps.size)(D:ko P G b ops ord X S ι0 m0 w0 a0 listed a w ι q)
  {i:Nat} {o:Oper} (ho:ops[i]?=some o) (hun:listed.getD i false=false) (hr:∀e∈o.after,Region.binds .any e=true->listed.getD e.on false=true) (hD:∀p,ord[p]?=some i->DStep cf b (X p) (S p) (S (p+1))) {K:Act->World->Prop} {Q:Exit->Act->World->Prop}
  (hK:∀a' w' ι' q',ko P G b ops ord X S ι0 m0 w0 a0 (listed.setIfInBounds i true) a' w' ι' q'->K a' w'):wpOpIn (FR r) 0 P ops Q i K a w:=by
 have hi:i<listed.size:=by rw [D.len];exact (K9.1 ho).1
 obtain⟨p,hp⟩:=aaS (F.all i (K9.1 ho).1);have hpl:p<ord.length:=(J5.1 hp).1;have hqp:q<=p:=by rcases afs p q with h | h;have:=D.low p h;rw [jB hp,hun] at this;cases this;exact h
 obtain⟨d,rfl⟩:∃d,p=q+d:=⟨p-q,by omega⟩;have hdep:∀j,Ao ops i j->listed.getD j false=true:=λj hj=>hj.listed D.closed λo' ho' e he hbnd=>by rw [ho] at ho';cases ho';exact hr e he hbnd
 obtain⟨o',ho',hop,hdst,hg⟩:=F.inst (q+d) i hp;rw [ho] at ho';cases ho';have s:=D.st F hb hen hnt d (by omega) (q+d) (J2 _);let af:Act:={tmps:=KI ops ord S listed ι a0 (q+d),defers:=[]}
 have hlook:∀t∈xu ops o,a.tmps.getD t undef=af.tmps.getD t undef:=λt ht=>D.looks F hnt hp ho hun hdep ht;have hsz:a.tmps.size=af.tmps.size:=by rw [D.sz];exact jR _ |>.symm
 have hwant:=Bq hsz hlook;have hwg:=nG (tmps:=af.tmps) s hg;have hev:(∀cs bl,o.op≠.select cs bl)->execOp a.eval o=execOp af.eval o:=λhs=>execOp_congr o hs (Hr hlook);have hLs:=OU (listed:=listed) F.nodup hp hi;have hLmono:∀r,Lp ord listed r=true->Lp ord (listed.setIfInBounds i true) r=true:=λr hL=>by rw [hLs];split<;>simp [hL]
 have hsm:∀y∈CV (X (q+d)).2.op,Sm id (S (q+d)).ls (S (q+d)).env (Sd ord S listed (q+d)) (zf ord X S listed (q+d)) y:=λy hy=>D.WQ F hpl hdep (F.WQ _ i hp y hy);have hbaseLay:=D.lay F hb d (by omega);have LFd:=F.lay D.head D.base.rm.ok (Lp ord listed) d (by omega);obtain⟨v,_,_,hs⟩:=hD (q+d) hp;have hVof:rV S (q+d)=v:=by simp [rV,‹(S (q+d+1)).ls=_›]
 have hguard:∀y wt,(X (q+d)).2.guard=some (y,wt)->F9 y (Sd ord S listed (q+d)) (zf ord X S listed (q+d))=F9 y (S (q+d)).ls (S (q+d)).env:=λy wt h=>D.WQ F hpl hdep (F.opdg _ i y wt hp h);have hwanted:Region.wanted o (yielded ops a.tmps)=sZ (X (q+d)).2.guard (S (q+d)).ls (S (q+d)).env:=by
  rw [hwant,hwg];cases hgd:(X (q+d)).2.guard with
  | none=>rfl
  | some z=>obtain⟨y,wt⟩:=z;simp only [sZ];rw [hguard y wt hgd]
 have hle1:((aL b X S q (Lp ord listed) d).nm ι).le ((aL b X S q (Lp ord (listed.setIfInBounds i true)) (d+1)).nm ι):=
  Mem.ah (λj hj=>F.ze D.head D.base.rm.ok (by omega) (by omega) (λk _ h=>hLmono _ h) hj) λ_ _=>rfl
 have still:aB (X (q+d)).2=false->dN b X S (q+d)=none->(rV S (q+d)).lt ((aL b X S q (Lp ord listed) d).nm ι)->K (a.put o.dst (o8 ι (rV S (q+d)))) w:=by intro hE hmk hlt;exact hK _ _ ι q (D.quiet F hnt hp ho hun hr hE (ι':=ι) (w':=w) (Step.refl D.base.rm) (λ_ _=>rfl) (λ_ _=>rfl) (λid blk h=>by rw [hmk] at h;cases h) (j3.O6 hle1 _ hlt))
 show wpOpIn (FR r) 0 P ops Q i K a w;unfold wpOpIn;simp only [ho];rw [hwanted];have skip:aB (X (q+d)).2=false->dN b X S (q+d)=none->rV S (q+d)=.undef->(∀f,o.about P w a.eval=some f->(FR r).fn f)∧K (a.put o.dst undef) w:=by intro hE hmk hv;refine⟨λ_ _=>trivial,?_⟩;have:=still hE hmk (by rw [hv];trivial);rw [hv,kP] at this;exact this
 have hcop:∀{ao},(X (q+d)).2.op=ao->ao≠.e .bad->fO P slots (fV ops ord (q+d)) o.op=some ao:=by intro ao h1 h2;rw [hop] at h1;unfold jZ at h1;split at h1;rename_i a' ha;rw [ha,h1];exact absurd h1.symm h2
 cases hx:(X (q+d)).2.op with
 | p po=>
  rw [hx] at hs hsm;obtain⟨h1,_,_⟩:=hs;have hE:aB (X (q+d)).2=false:=by simp [aB,hx]
  have hmk:dN b X S (q+d)=none:=by simp [dN,hx]
  have hc:=hcop hx (by simp);have run:nk po (S (q+d)).ls (S (q+d)).env=some v->o.wpIn (FR r) 0 P a w K Q:=by
   intro h1;rw [← ajk hsm] at h1;obtain⟨g1,g2⟩:=rH (a:=af) s hc h1;refine iO (qH hc (λ_ _ h=>by cases h)) (R:=λu w'=>u=o8 ι v∧w'=w) ?_ ?_;exact O7 (by rw [hev (ji hc)];exact g2 o rfl w) ⟨rfl,rfl⟩;rintro u w' ⟨rfl,rfl⟩;have:=still hE hmk (by rw [hVof];exact g1)
   rwa [hVof] at this
  cases hgd:(X (q+d)).2.guard with
  | none=>rw [hgd] at h1;exact run h1
  | some z=>
   obtain⟨y,wt⟩:=z;rw [hgd] at h1;have h1:bi (oP wt (F9 y (S (q+d)).ls (S (q+d)).env)) (nk po (S (q+d)).ls (S (q+d)).env) (some .undef)=some v:=h1;rw [show sZ (some (y,wt)) (S (q+d)).ls (S (q+d)).env=oP wt (F9 y (S (q+d)).ls (S (q+d)).env) from rfl];cases hB:oP wt (F9 y (S (q+d)).ls (S (q+d)).env) with
   | true=>rw [hB] at h1;exact run h1
   | false=>rw [hB] at h1;cases h1;exact skip hE hmk hVof
 | r ro=>
  rw [hx] at hs hsm;obtain⟨h1,_,_,_⟩:=hs;have hE:aB (X (q+d)).2=false:=by simp [aB,hx]
  have hmk:dN b X S (q+d)=none:=by simp [dN,hx]
  have hc:=hcop hx (by simp);have runL:ru ro (S (q+d)).ls (S (q+d)).env (aL b X S q (Lp ord listed) d)=some v->o.wpIn (FR r) 0 P a w K Q:=by
   intro h1;rw [← ajl hsm] at h1;obtain⟨g1,g2⟩:=rJ (a:=af) s hbaseLay.rm (uE hc) h1;refine iO (qH hc (λ_ _ h=>by cases h)) (R:=λu w'=>u=o8 ι v∧w'=w) ?_ ?_;exact O7 (by rw [hev (ji hc)];exact g2 o rfl) ⟨rfl,rfl⟩;rintro u w' ⟨rfl,rfl⟩;have:=still hE hmk (by rw [hVof];exact g1)
   rwa [hVof] at this
  rcases h1 with⟨h1,h2⟩ | ⟨hgn,y,id,off,len,cp,rfl,hv1,hv2,hv3,hv4⟩
  case inr=>
   obtain⟨q0,k1,k2,k3⟩:=Mx X (q+d);have hq0:q<=q0:=by rcases D.head with h0 | hh;omega;rcases afs q0 q with hlt | hge;have:=k3 (q-1) (by omega) (by omega);rw [this] at hh;cases hh;exact hge
   obtain⟨d0,hd0⟩:∃d0,q+d=q0+d0:=⟨q+d-q0,by omega⟩;have hhd:hd (S (q+d)).m (S (q+d)).gs=(S q0).m:=by
    obtain⟨rr,r1,r2⟩:=F.gs k2 d0 (by omega);rw [← hd0] at r1 r2;cases rr with
    | succ rr=>obtain⟨pos,e,g1,g2,_,g4,_⟩:=r2 0 (by omega);rw [k3 pos g1 g2] at g4;cases g4
    | zero=>
     cases hgs:(S (q+d)).gs with
     | nil=>rw [hgs] at r1;simp at r1
     | cons g gs=>rw [hgs] at r1;simp at r1;exact r1
   rw [hhd] at hv2;have hv2:=uM hv2;obtain⟨y1,hy1⟩:∃y1,(S (q+d)).m.get id=some y1:=by
    cases hgt:(S (q+d)).m.get id with
    | none=>rw [hgt] at hv3;cases hv3
    | some y1=>exact⟨y1,rfl⟩
   rw [hd0] at hy1 k3;rcases F.since (q:=q0) d0 (by omega) k3 hy1 with h | ⟨p',p1,p2,p3⟩;rw [hv2] at h;cases h;rw [hd0,hy1] at hv3;cases hv3;rw [← hd0] at hy1 p2;obtain⟨x,hxo⟩:∃x,N9 P slots (fV ops ord (q+d)) x=some y:=by
    have:=uE hc;revert this;generalize o.op=op';intro h;cases h with
    | bytesStr _ _ _ hx=>exact⟨_,hx⟩
   have hlt:=(A8 (a:=af) s hxo).2;have hop1:F9 y (Sd ord S listed (q+d)) (zf ord X S listed (q+d))=F9 y (S (q+d)).ls (S (q+d)).env:=D.WQ F hpl hdep (F.WQ _ i hp y (by rw [hx];simp [CV,ay]));rw [hop1,hv1] at hlt;simp only [j3.lt] at hlt;obtain⟨y',g1,g2⟩:=hlt;have hget:(aL b X S q (Lp ord listed) d).get id=(S (q+d)).m.get id:=by rcases LFd.from_ id y' g1 with h | ⟨d',e1,e2,e3⟩;have:=F.Co D.head (show q<=p' by omega) (by omega) p3;rw [this] at h;cases h;cases g2;rcases afH (q+d') p' with hlt | heq | hgt;exact absurd (F.Hq hlt (by omega) e3 p3) (afB _);subst heq;rw [e3] at p3;cases p3;rw [g1,hy1];exact absurd (F.Hq hgt (by omega) p3 e3) (afB _)
   rw [hgn];refine runL ?_;show fK (F9 y) _ _ _=_;rw [JH hv1 hget];exact hv4
  obtain⟨rr,hr1,hr2⟩:=F.gs D.head d (by omega);have hrc:rr<=(X (q+d)).1:=by
   rw [F.cnt (q+d) i ro hp hx];refine wU _ _ _ λk hk=>?_;obtain⟨pos,e,g1,g2,g3,g4,g5⟩:=hr2 k hk;refine⟨e,g5,?_⟩;cases hm:Om (masks ops.toList) i e with
   | false=>rfl
   | true=>have h3:=hdep e (fA ops i e hm);have h4:=D.high pos g1 g4;rw [jB g3,h3] at h4;cases h4
  have hread:wY (X (q+d)).2.guard (ru ro) (S (q+d)).ls (S (q+d)).env (S q).m=some v:=by
   cases rr with
   | zero=>
    have:hd (S (q+d)).m (S (q+d)).gs=(S q).m:=by
     cases hgs:(S (q+d)).gs with
     | nil=>rw [hgs] at hr1;simp at hr1
     | cons g gs=>rw [hgs] at hr1;simp at hr1;exact hr1
    rw [this] at h1;exact h1
   | succ rr=>
    obtain⟨g,g1,g2⟩:=Bp h2 rr (by omega);have:g=(S q).m:=by
     cases hgs:(S (q+d)).gs with
     | nil=>rw [hgs] at hr1;simp at hr1
     | cons g' gs=>rw [hgs] at hr1 g1;have g1:gs[rr]?=some g:=g1;simp at hr1;rw [g1] at hr1;exact Y7 hr1
    rw [this] at g2;exact g2
  have run:ru ro (S (q+d)).ls (S (q+d)).env (S q).m=some v->o.wpIn (FR r) 0 P a w K Q:=λh1=>runL (XO LFd.sub h1);cases hgd:(X (q+d)).2.guard with
  | none=>rw [hgd] at hread;exact run hread
  | some z=>
   obtain⟨y,wt⟩:=z;rw [hgd] at hread;have hread:bi (oP wt (F9 y (S (q+d)).ls (S (q+d)).env)) (ru ro (S (q+d)).ls (S (q+d)).env (S q).m) (some .undef)=some v:=hread;rw [show sZ (some (y,wt)) (S (q+d)).ls (S (q+d)).env=oP wt (F9 y (S (q+d)).ls (S (q+d)).env) from rfl];cases hB:oP wt (F9 y (S (q+d)).ls (S (q+d)).env) with
   | true=>rw [hB] at hread;exact run hread
   | false=>rw [hB] at hread;cases hread;exact skip hE hmk hVof
 | a lo=>
  rw [hx] at hs hsm;obtain⟨res,h1,hv,_,_,_,_⟩:=hs;have hE:aB (X (q+d)).2=false:=by simp [aB,hx]
  have hc:=hcop hx (by simp);have hmk0:res.2=none->dN b X S (q+d)=none:=λh=>by obtain⟨u,bl⟩:=res;obtain rfl:bl=none:=h;simp [dN,hx,h1]
  have run:wH lo (S (q+d)).ls (S (q+d)).env (b+(X (q+d)).1)=some res->o.wpIn (FR r) 0 P a w K Q:=by
   intro h3;rw [← ajm hsm] at h3;have hnot:∀bl,res.2=some bl->¬ ((aL b X S q (Lp ord listed) d).nm ι) (b+(X (q+d)).1):=by
    rintro bl hbl ⟨y,g1,g2⟩;have hm:dN b X S (q+d)=some (b+(X (q+d)).1,bl):=by obtain⟨u,bl'⟩:=res;obtain rfl:bl'=some bl:=hbl;simp [dN,hx,h1]
    rw [LFd.later (q+d) _ bl (J2 _) hpl hm] at g1;cases g1;cases g2
   obtain⟨u,bl⟩:=res;cases bl with
   | none=>
    have hmk:=hmk0 rfl;have hs':=make_none (a:=af) s hbaseLay.rm hc h3 w;refine iO (qH hc (λ_ _ h=>by cases h)) (R:=λx w'=>x=o8 ι u∧w'=w) ?_ ?_;exact O7 (by rw [hev (ji hc)];exact hs'.2 o rfl w) ⟨rfl,rfl⟩;rintro x w' ⟨rfl,rfl⟩;have:=still hE hmk (by rw [hVof,hv];exact hs'.1)
    rwa [hVof,hv] at this
   | some bl=>
    have hm:dN b X S (q+d)=some (b+(X (q+d)).1,bl):=(by simp [dN,hx,h1]);have hn:=hnot bl rfl;have hs':=rP (a:=af) s (λ_ _=>rfl) hn (yJ hc) h3 w;have hid:∀l:Loc,∀j,(∀blk,dN b X S (q+d)≠some (j,blk))->(ι.upd (b+(X (q+d)).1) l) j=ι j:=λl j hj=>ι.upd_ne l λe=>hj bl (by rw [e];exact hm);have hbn:¬ (S q).m.has (b+(X (q+d)).1):=λ⟨y,g1,g2⟩=>hn ⟨y,LFd.sub _ y g1 g2,g2⟩;have hupd:∀l:Loc,∀j,(aL b X S q (Lp ord listed) d).has j->(ι.upd (b+(X (q+d)).1) l) j=ι j:=λl j hj=>ι.upd_ne l λe=>hn (e▸hj);have hle2:∀l:Loc,((aL b X S q (Lp ord listed) d).nm ι).le ((aL b X S q (Lp ord (listed.setIfInBounds i true)) (d+1)).nm (ι.upd (b+(X (q+d)).1) l)):=λl=>Mem.ah (λj hj=>F.ze D.head D.base.rm.ok (by omega) (by omega) (λk _ h=>hLmono _ h) hj) (hupd l)
    have hself:bQ bl=false->(aL b X S q (Lp ord (listed.setIfInBounds i true)) (d+1)).has (b+(X (q+d)).1):=λhvb=>⟨bl,(F.lay D.head D.base.rm.ok _ (d+1) (by omega)).laid d _ bl (by omega) (by rw [hLs,if_pos rfl]) hm,hvb⟩;have hcapl:∀l:Loc,((aL b X S q (Lp ord (listed.setIfInBounds i true)) (d+1)).nm (ι.upd (b+(X (q+d)).1) l)).cap (b+(X (q+d)).1)=l.cap:=λl=>(by show ((ι.upd (b+(X (q+d)).1) l) (b+(X (q+d)).1)).cap=l.cap;rw [K4.Q8]);cases hs' with
    | made l obj w' hmk=>
     obtain⟨g1,g2⟩:=hmk.blk _ (hle2 l) (hself hmk.live) (hcapl l);refine iO (qH hc (λ_ _ h=>by cases h)) (R:=λx w''=>x=o8 (ι.upd (b+(X (q+d)).1) l) u∧w''=w') ?_ ?_;exact O7 (by rw [hev (ji hc)];exact hmk.run o rfl) ⟨rfl,rfl⟩;rintro x w'' ⟨rfl,rfl⟩;have:=D.quiet F hnt hp ho hun hr hE (ι':=ι.upd (b+(X (q+d)).1) l) (w':=w'') (Step.push D.base.rm hmk.grew λj hj=>ι.upd_ne l λe=>hbn (e▸hj))
      (λk hk=>by rw [hmk.grew.heap];exact (aik hk).trans (aaG hk).symm) (hid l) (λid blk hm'=>?_) (by rw [hVof,hv];exact g2)
     rw [hVof,hv] at this;exact hK _ _ _ q this;rw [hm] at hm';cases hm';rw [K4.Q8];refine⟨by rw [hmk.grew.heap];exact g1,hmk.live,λ_=>⟨⟨hmk.loc,hmk.spot⟩,λc e fz hcc=>?_⟩⟩;rw [hmk.grew.heap,hmk.loc,dh] at hcc;exact hmk.free c e fz (Y7 hcc)
    | @tail _ pp l hpn hbb hgv hlt=>
     refine iO (qH hc (λ_ _ h=>by cases h)) (R:=λx w''=>x=o8 (ι.upd (b+(X (q+d)).1) l) u∧w''=w) ?_ ?_;exact O7 (by rw [hev (ji hc)];exact hgv o rfl w) ⟨rfl,rfl⟩;rintro x w'' ⟨rfl,rfl⟩;have:=D.quiet F hnt hp ho hun hr hE (ι':=ι.upd (b+(X (q+d)).1) l) (w':=w'') ((Step.refl D.base.rm).rename λj hj=>ι.upd_ne l λe=>hbn (e▸hj))
      (λk hk=>rfl) (hid l) (λid blk hm'=>?_) (by rw [hVof,hv];exact hlt _ (hle2 l) (hself rfl) (hcapl l))
     rw [hVof,hv] at this;exact hK _ _ _ q this;rw [hm] at hm';cases hm';rw [K4.Q8];refine⟨⟨(hle2 l pp hpn).1,?_⟩,rfl,λhl=>by cases hl⟩;rw [hupd l pp hpn];exact hbb
  cases hgd:(X (q+d)).2.guard with
  | none=>rw [hgd] at h1;exact run h1
  | some z=>
   obtain⟨y,wt⟩:=z;have h1':=h1;rw [hgd] at h1';have h1':bi (oP wt (F9 y (S (q+d)).ls (S (q+d)).env)) (wH lo (S (q+d)).ls (S (q+d)).env (b+(X (q+d)).1)) (some (.undef,none))=some res:=h1';rw [show sZ (some (y,wt)) (S (q+d)).ls (S (q+d)).env=oP wt (F9 y (S (q+d)).ls (S (q+d)).env) from rfl];cases hB:oP wt (F9 y (S (q+d)).ls (S (q+d)).env) with
   | true=>rw [hB] at h1';exact run h1'
   | false=>rw [hB] at h1';cases h1';exact skip hE (hmk0 rfl) (by rw [hVof,hv])
 | e eo=>
  rw [hx] at hs hsm;obtain⟨h1,_,hnp⟩:=hs;have hE:aB (X (q+d)).2=true:=by simp [aB,hx]
  have hall:∀k,k<d->Lp ord listed (q+k)=true:=λk hk=>by
   have hkl:q+k<ord.length:=by omega
   have:=hdep _ (F.eff (q+d) i hp hE (q+k) _ (by omega) (J7 hkl));rw [jB (J7 hkl)];exact this
  have hnoE:∀k,k<d->aB (X (q+k)).2=false:=λk hk=>by
   cases he:aB (X (q+k)).2 with
   | false=>rfl
   | true=>have h1:=D.high (q+k) (by omega) he;rw [hall k hk] at h1;cases h1
  have hmem:=F.lay_all (L:=Lp ord listed) d (by omega) λk hk=>⟨hall k hk,hnoE k hk⟩;rw [hmem] at s hbaseLay;have fin:∀ι' w',Step P G ι (S (q+d)).m w ι' (S (q+d+1)).m w'->v.lt ((S (q+d+1)).m.nm ι')->K (a.put o.dst (o8 ι' v)) w':=by intro ι' w' hst hlt;obtain⟨ι'',g1,g2⟩:=D.effect F hb hnt hp ho hun hr hE hall hst (by rw [hVof];exact hlt);rw [g1,hVof] at g2;exact hK _ _ _ _ g2
  have run:nu eo cf (S (q+d)).ls (S (q+d)).env (S (q+d)).m=some [⟨v,(S (q+d+1)).m⟩]->o.wpIn (FR r) 0 P a w K Q:=by
   intro h1;have hnb:yw.e eo≠.e .bad:=by intro h;cases h;cases h1
   have hc:=hcop hx hnb;rw [← aex hsm] at h1;have:=Ak (a:=af) hcf s hbaseLay.rm hc h1 o rfl;refine mY (Ee (cf:=cf) hc h1) (Br (hev (ji hc)) this) ?_ ?_ λ_=>qm;rintro u w' (⟨_,hu,x,hxm,ι',g1,g2,rfl⟩ | ⟨_,_,_,_,_,_,_,h⟩);cases hu;obtain rfl:=J3.1 hxm;exact fin ι' w' g1 g2;cases h;rintro c w' (⟨_,hu,_⟩ | ⟨x,hxm,y,_,hxy,_⟩);cases hu;obtain rfl:=J3.1 hxm;exact absurd ⟨y,hxy⟩ hnp
  cases hgd:(X (q+d)).2.guard with
  | none=>rw [hgd] at h1;exact run h1
  | some z=>
   obtain⟨y,wt⟩:=z;rw [hgd] at h1;have h1:bi (oP wt (F9 y (S (q+d)).ls (S (q+d)).env)) (nu eo cf (S (q+d)).ls (S (q+d)).env (S (q+d)).m) (one .undef (S (q+d)).m)=some [⟨v,(S (q+d+1)).m⟩]:=h1;rw [show sZ (some (y,wt)) (S (q+d)).ls (S (q+d)).env=oP wt (F9 y (S (q+d)).ls (S (q+d)).env) from rfl];cases hB:oP wt (F9 y (S (q+d)).ls (S (q+d)).env) with
   | true=>rw [hB] at h1;exact run h1
   | false=>rw [hB] at h1;have h1:[(⟨.undef,(S (q+d)).m⟩:VM)]=[⟨v,(S (q+d+1)).m⟩]:=Y7 h1;simp only [afn,VM.mk.injEq,and_true] at h1;obtain⟨hv,hm⟩:=h1;refine⟨λ_ _=>trivial,?_⟩;have:=fin ι w (by rw [← hm];exact Step.refl hbaseLay.rm) (by rw [← hv];trivial);rw [← hv,kP] at this;exact this
where
 make_none {P:Program} {G:Mem} {ι:K4} {m:Mem} {w0:World} {slots:List Nat} {done:List (Option Nat)} {ls:List j3} {env:T j3} {a:Act} (s:St P ι (m.nm ι) slots done ls env a.tmps) (hm:RM P G ι m w0.heap) {op:Op} {lo:Rh} (h:fO P slots done op=some (.a lo)) {u:j3} {nid:Nat}
   (hv:wH lo ls env nid=some (u,none)) (w:World):u.lt (m.nm ι)∧Gives P a.eval op (o8 ι u):=by
  have hn:¬ (m.nm ι) m.nx:=λ⟨_,h3,_⟩=>afB _ (Mem.I8 hm.ok h3);have hv':=sl_place hv m.nx;have hs:=rP (a:=a) s (λ_ _=>rfl) hn (yJ h) hv' w;cases hs with
  | none h1 h2=>exact⟨h1,h2⟩
 sl_place {lo:Rh} {ls:List j3} {env:T j3} {u:j3} {nid:Nat} (hv:wH lo ls env nid=some (u,none)) (nid':Nat):wH lo ls env nid'=some (u,none):=by
  cases lo with
  | alloc z=>cases hv
  | box x=>cases hv
  | allocT t z=>cases hv
  | boxT t k x=>obtain⟨_,h⟩:=D7 hv;cases h
  | mkMap=>cases hv
  | buildSlice es len z ps=>obtain⟨c,h1,h⟩:=C8 hv;obtain⟨c2,h2,h⟩:=C8 h;cases h
  | mkSlice es by' z l c=>obtain⟨_,_,_,h⟩:=eZ hv;obtain⟨_,_,_,h⟩:=eZ h;obtain⟨_,h⟩:=D7 h;obtain⟨_,h⟩:=D7 h;obtain⟨_,h⟩:=D7 h;cases h
  | strBytes x=>obtain⟨_,_,h⟩:=iq hv;obtain⟨_,_,h⟩:=C8 h;cases h
  | sl es x lo hi=>
   have key:∀l h,L9 nid es (F9 x ls env) l h=some (u,none)->L9 nid' es (F9 x ls env) l h=some (u,none):=by
    intro l h hs;generalize F9 x ls env=X at hs;cases X with
    | nilSlice=>exact hs
    | slice=>exact hs
    | sliceU id off len es'=>
     have hu:∀hh,L9.unk nid es l id off len es' hh=some (u,none)->L9.unk nid' es l id off len es' hh=some (u,none):=by
      intro hh hs;unfold L9.unk at hs ⊢;obtain⟨q1,hs⟩:=D7 hs;obtain⟨q2,hs⟩:=D7 hs;obtain⟨q3,hs⟩:=D7 hs;rw [q1,q2,q3];simp only [P7];cases hb:Nat.blt l len with
      | true=>rw [hb] at hs;exact hs
      | false=>
       rw [hb] at hs;simp only [S9] at hs ⊢;cases hz:Nat.beq l 0 with
       | true=>rw [hz] at hs;exact hs
       | false=>rw [hz] at hs;cases hs
     cases h with
     | none=>exact hu len hs
     | some hh=>exact hu hh hs
    | _=>exact hs
   have hv:eX (kG lo) 0 ls env (λl=>Option.rec (L9 nid es (F9 x ls env) l none) (λh=>gZ (h ls env) λh=>L9 nid es (F9 x ls env) l (some h)) (kG hi))=some (u,none):=hv;show eX (kG lo) 0 ls env (λl=>Option.rec (L9 nid' es (F9 x ls env) l none) (λh=>gZ (h ls env) λh=>L9 nid' es (F9 x ls env) l (some h)) (kG hi))=some (u,none);have inner:∀l,(Option.rec (L9 nid es (F9 x ls env) l none) (λh=>gZ (h ls env) λh=>L9 nid es (F9 x ls env) l (some h)) (kG hi):LR)=some (u,none)->
     (Option.rec (L9 nid' es (F9 x ls env) l none) (λh=>gZ (h ls env) λh=>L9 nid' es (F9 x ls env) l (some h)) (kG hi):LR)=some (u,none):=by
    intro l h;cases ht:kG hi with
    | none=>rw [ht] at h;exact key l none h
    | some g=>rw [ht] at h;obtain⟨k,n,h1,h2⟩:=eZ h;show gZ (g ls env) (λh=>L9 nid' es (F9 x ls env) l (some h))=_;rw [h1];exact key l (some n) h2
   cases ht:kG lo with
   | none=>rw [ht] at hv;exact inner 0 hv
   | some g=>rw [ht] at hv;obtain⟨k,n,h1,h2⟩:=eZ hv;show gZ (g ls env) _=_;rw [h1];exact inner n h2
end
end
end Go.AM
