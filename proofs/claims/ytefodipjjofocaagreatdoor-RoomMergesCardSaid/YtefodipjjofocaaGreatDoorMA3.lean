/- A part of an evaluator for the model, proved sound: what it answers holds of the model; it speaks of every program, no condition. -/
import Derived.Test.YtefodipjjofocaaGreatDoorMA2
import Derived.OrdersIn
set_option linter.unusedSimpArgs false
set_option linter.unusedVariables false
namespace Go.AM
open Go
section
variable {f:Opd→Opd}{ls ls':List o8}{env env':T o8}
def Sm (f:Opd→Opd)(ls:List o8)(env:T o8)(ls':List o8)(env':T o8)(x:Opd):Prop:=trO (f x) ls' env'=trO x ls env
theorem jP {l:List Opd}(h:∀x∈l,Sm f ls env ls' env' x):evs (je (l.map f)) ls' env'=evs (je l) ls env:=by
 rw [evs_eq',evs_eq']
 rw [List.map_map]
 exact List.map_congr_left h
where
 evs_eq' {l:List Opd} {ls:List o8} {env:T o8}:evs (je l) ls env=l.map fun x=>trO x ls env:=by
  induction l with
  | nil=>rfl
  | cons x l ih=>show trO x ls env::evs (je l) ls env=_;rw [ih];rfl
theorem xA {ps:List (Nat×Nat×Opd)}(h:∀x∈ps.map (·.2.2),Sm f ls env ls' env' x)(cs:List o8):
  lay (Cz (ps.map fun p=>(p.1,p.2.1,f p.2.2))) ls' env' cs=lay (Cz ps) ls env cs:=by
 induction ps generalizing cs with
 | nil=>rfl
 | cons p ps ih=>
  have h0:trO (f p.2.2) ls' env'=trO p.2.2 ls env:=h _ (by simp)
  show bi (Nat.beq (len' (trO (f p.2.2) ls' env').cells) p.2.1) (bi (Nat.ble (Nat.add p.1 p.2.1) (len' cs)) (lay (Cz (ps.map fun p=>(p.1,p.2.1,f p.2.2))) ls' env' (jq p.1 (trO (f p.2.2) ls' env').cells cs)) none) none =
   bi (Nat.beq (len' (trO p.2.2 ls env).cells) p.2.1) (bi (Nat.ble (Nat.add p.1 p.2.1) (len' cs)) (lay (Cz ps) ls env (jq p.1 (trO p.2.2 ls env).cells cs)) none) none
  rw [h0,ih (fun x hx=>h x (List.mem_cons_of_mem _ hx))]
theorem bV {β:Type}{o:Option Opd}(h:∀x∈o.toList,Sm f ls env ls' env' x)(d:Nat)(k:Nat→Option β):cB (nE (o.map f)) d ls' env' k=cB (nE o) d ls env k:=by
 cases o with
 | none=>rfl
 | some x=>
  have h0:trO (f x) ls' env'=trO x ls env:=h x (by simp)
  show kT (trO (f x) ls' env') k=kT (trO x ls env) k
  rw [h0]
theorem xB {o:POp}(h:∀x∈jo o,Sm f ls env ls' env' x):trP (nH f o) ls' env'=trP o ls env:=by
 have e:∀x∈jo o,trO (f x) ls' env'=trO x ls env:=h
 cases o with
 | build z ps=>show ob (lay (Cz (ps.map fun p=>(p.1,p.2.1,f p.2.2))) ls' env' z) _=ob (lay (Cz ps) ls env z) _;rw [xA h]
 | mkFunc fn a b=>
  show some (o8.func fn (evs (je (a.map f)) ls' env') (evs (je (b.map f)) ls' env'))=some (o8.func fn (evs (je a) ls env) (evs (je b) ls env))
  rw [jP fun x hx=>h x (List.mem_append_left _ hx),jP fun x hx=>h x (List.mem_append_right _ hx)]
 | slStr x lo hi=>
  have h0:=e x (by simp [jo])
  have h1:∀y∈lo.toList,Sm f ls env ls' env' y:=fun y hy=>h y (List.mem_cons_of_mem _ (List.mem_append_left _ hy))
  have h2:∀y∈hi.toList,Sm f ls env ls' env' y:=fun y hy=>h y (List.mem_cons_of_mem _ (List.mem_append_right _ hy))
  simp only [nH,trP,sN,h0,bV h1,bV h2]
 | slArr es n x lo hi=>
  have h0:=e x (by simp [jo])
  have h1:∀y∈lo.toList,Sm f ls env ls' env' y:=fun y hy=>h y (List.mem_cons_of_mem _ (List.mem_append_left _ hy))
  have h2:∀y∈hi.toList,Sm f ls env ls' env' y:=fun y hy=>h y (List.mem_cons_of_mem _ (List.mem_append_right _ hy))
  simp only [nH,trP,wD,h0,bV h1,bV h2]
 | mm mx x xs=>
  show Em mx (evs (je (xs.map f)) ls' env') (trO (f x) ls' env')=Em mx (evs (je xs) ls env) (trO x ls env)
  rw [jP fun x hx=>h x (List.mem_cons_of_mem _ hx),e x (by simp [jo])]
 | ib op x y=>
  have h0:=e x (by simp [jo])
  have h1:=e y (by simp [jo])
  cases op<;>simp only [nH,trP,pIb,aeM,KJ,h0,h1]
 | eq neg k x y=>
  have h0:=e x (by simp [jo])
  have h1:=e y (by simp [jo])
  cases neg<;>simp only [nH,trP,pEq,pNe,h0,h1]
 | fld off size x=>
  have h0:=e x (by simp [jo])
  cases size<;>simp only [nH,trP,Ej,Jc,h0]
 | iArr es n size x i=>
  have h0:=e x (by simp [jo])
  have h1:=e i (by simp [jo])
  cases size<;>simp only [nH,trP,Bu,El,h0,h1]
 | pick a b c=>simp only [nH,trP,aO,e a (by simp [jo]),e b (by simp [jo]),e c (by simp [jo])]
 | iAddr es x i=>simp only [nH,trP,J3,e x (by simp [jo]),e i (by simp [jo])]
 | iAddrArr es n x i=>simp only [nH,trP,bA,e x (by simp [jo]),e i (by simp [jo])]
 | iStr x i=>simp only [nH,trP,Cx,e x (by simp [jo]),e i (by simp [jo])]
 | mov x=>simp only [nH,trP,bg,e x (by simp [jo])]
 | nilCheck x=>simp only [nH,trP,cu,e x (by simp [jo])]
 | not x=>simp only [nH,trP,uJ,e x (by simp [jo])]
 | neg x=>simp only [nH,trP,TY,e x (by simp [jo])]
 | conv k x=>simp only [nH,trP,jv,e x (by simp [jo])]
 | mkIface t x=>simp only [nH,trP,wC,e x (by simp [jo])]
 | fAddr o x=>simp only [nH,trP,H8,e x (by simp [jo])]
 | ext x i=>simp only [nH,trP,pExt,e x (by simp [jo])]
 | len x=>simp only [nH,trP,lV,e x (by simp [jo])]
 | lenS x=>simp only [nH,trP,Cy,e x (by simp [jo])]
 | cap x=>simp only [nH,trP,Ua,e x (by simp [jo])]
 | assert t z ok x=>simp only [nH,trP,Eo,e x (by simp [jo])]
theorem xC {o:ROp}(h:∀x∈IG o,Sm f ls env ls' env' x)(m:Mem):trR (IJ f o) ls' env' m=trR o ls env m:=by
 have e:∀x∈IG o,trO (f x) ls' env'=trO x ls env:=h
 cases o with
 | load size x=>cases size<;>simp only [IJ,trR,eT,K9,e x (by simp [IG])]
 | look k z ok x y=>simp only [IJ,trR,bB,e x (by simp [IG]),e y (by simp [IG])]
 | lenM x=>simp only [IJ,trR,UG,e x (by simp [IG])]
 | bytesStr x=>simp only [IJ,trR,qd,e x (by simp [IG])]
 | entry x=>simp only [IJ,trR,wE,e x (by simp [IG])]
theorem xD {o:LOp}(h:∀x∈opsL o,Sm f ls env ls' env' x)(nid:Nat):trL (KL f o) ls' env' nid=trL o ls env nid:=by
 have e:∀x∈opsL o,trO (f x) ls' env'=trO x ls env:=h
 cases o with
 | alloc z=>rfl
 | mkMap=>rfl
 | box x=>simp only [KL,trL,Jf,e x (by simp [opsL])]
 | buildSlice es len z ps=>
  show ob (lay (Cz (ps.map fun p=>(p.1,p.2.1,f p.2.2))) ls' env' (N7 z len)) _=ob (lay (Cz ps) ls env (N7 z len)) _
  rw [xA h]
 | mkSlice es b z l c=>simp only [KL,trL,pO,e l (by simp [opsL]),e c (by simp [opsL])]
 | strBytes x=>simp only [KL,trL,wF,e x (by simp [opsL])]
 | sl es x lo hi=>
  have h0:=e x (by simp [opsL])
  have h1:∀y∈lo.toList,Sm f ls env ls' env' y:=fun y hy=>h y (List.mem_cons_of_mem _ (List.mem_append_left _ hy))
  cases hi with
  | none=>
   show cB (nE (lo.map f)) 0 ls' env' (fun l=>O7 nid es (trO (f x) ls' env') l none)=cB (nE lo) 0 ls env (fun l=>O7 nid es (trO x ls env) l none)
   rw [bV h1,h0]
  | some y=>
   have h2:=e y (by simp [opsL])
   show cB (nE (lo.map f)) 0 ls' env' (fun l=>kT (trO (f y) ls' env') fun h=>O7 nid es (trO (f x) ls' env') l (some h))=cB (nE lo) 0 ls env (fun l=>kT (trO y ls env) fun h=>O7 nid es (trO x ls env) l (some h))
   rw [bV h1,h0,h2]
theorem xE {o:EOp}(h:∀x∈opsE o,Sm f ls env ls' env' x)(cf:L8)(m:Mem):trE (CG f o) cf ls' env' m=trE o cf ls env m:=by
 have e:∀x∈opsE o,trO (f x) ls' env'=trO x ls env:=h
 cases o with
 | store s a x=>simp only [CG,trE,K3,e a (by simp [opsE]),e x (by simp [opsE])]
 | mapSet k a b c=>simp only [CG,trE,bn,e a (by simp [opsE]),e b (by simp [opsE]),e c (by simp [opsE])]
 | range x=>simp only [CG,trE,wG,e x (by simp [opsE])]
 | next x=>simp only [CG,trE,Er,e x (by simp [opsE])]
 | app es zs z b s x=>cases zs<;>simp only [CG,trE,dG,Et,e s (by simp [opsE]),e x (by simp [opsE])]
 | copy es d s=>simp only [CG,trE,Jg,e d (by simp [opsE]),e s (by simp [opsE])]
 | clear z x=>simp only [CG,trE,om,e x (by simp [opsE])]
 | call g as=>
  show cf (.func g) (evs (je (as.map f)) ls' env') m=cf (.func g) (evs (je as) ls env) m
  rw [jP (l:=as) h]
 | callv g as=>simp only [CG,trE,bS,e g (by simp [opsE]),jP fun x hx=>h x (List.mem_cons_of_mem _ hx)]
 | bad=>rfl
 | defer f as=>rfl
 | recover=>rfl
 | panic x=>simp only [CG,trE,Bw,e x (by simp [opsE])]
end
end Go.AM
namespace Go.AM
open Go
section
variable {P:Program}{G:Mem}{ι:Inj}{n:Nm}{m:Mem}{w:World}{slots:List Nat}{done:List (Option Nat)}{ls:List o8}{env:T o8}{a:Act}
def FR (r:Option Nat):Fence:={Fence.wide with round:=r}
theorem fH:I4 ι .undef=undef:=by simp only [I4];rfl
theorem tL {α β:Type}(f:α→Option (List β))(a:α)(l:List α):CF f (a::l)=ob (f a) fun x=>ob (CF f l) fun y=>some (x++y):=rfl
theorem tN {α β:Type}{f:α→Option (List β)}:∀{l:List α} {outs:List β},CF f l=some outs→∀r∈l,∃os,f r=some os∧∀o∈os,o∈outs
 | [],_,_,r,hr=>by cases hr
 | a::l,outs,h,r,hr=>by
  rw [tL] at h
  obtain⟨x,hx,h⟩:=J7 h
  obtain⟨y,hy,h⟩:=J7 h
  cases h
  rcases List.mem_cons.1 hr with rfl | hr
  ·exact⟨x,hx,fun o ho=>List.mem_append_left _ ho⟩
  ·obtain⟨os,h1,h2⟩:=tN hy r hr
   exact⟨os,h1,fun o ho=>List.mem_append_right _ (h2 o ho)⟩
theorem Z4 {α β:Type}{x:Option (List α)}{f:α→Option (List β)}{outs:List β}(h:bnd x f=some outs):∃l,x=some l∧∀r∈l,∃os,f r=some os∧∀o∈os,o∈outs:=by
 cases x with
 | none=>cases h
 | some l=>
  refine⟨l,rfl,?_⟩
  match l,h with
  | [],_=>intro r hr;cases hr
  | [a],h=>
   intro r hr
   obtain rfl:=List.mem_singleton.1 hr
   exact⟨outs,h,fun o ho=>ho⟩
  | a::b::t,h=>exact tN (l:=a::b::t) h
noncomputable def evA (cf:L8)(o:AOp)(ls:List o8)(env:T o8)(m:Mem):rM:=match o with
 | .p o=>ob (trP o ls env) fun v=>one v m
 | .r o=>ob (trR o ls env m) fun v=>one v m
 | .a o=>ob (trL o ls env m.next) fun r=>one r.1 (II m r.2)
 | .e o=>trE o cf ls env m
noncomputable def evG (cf:L8)(g:Option (Opd×Bool))(o:AOp)(ls:List o8)(env:T o8)(m:Mem):rM:=match g with
 | none=>evA cf o ls env m
 | some (x,w)=>bi (isB w (trO x ls env)) (evA cf o ls env m) (one .undef m)
theorem tO {α β γ:Type}(o:Option α)(g:α→β)(f:β→Option (List γ)):bnd (ob o fun a=>some [g a]) f=ob o fun a=>f (g a):=by
 cases o<;>rfl
theorem Fb {β γ:Type}(b:Bool)(x y:Option (List β))(f:β→Option (List γ)):bnd (bi b x y) f=bi b (bnd x f) (bnd y f):=by
 cases b<;>rfl
theorem Na {α β:Type}(b:Bool)(x y:Option α)(f:α→Option β):ob (bi b x y) f=bi b (ob x f) (ob y f):=by
 cases b<;>rfl
def sj:AOp→Bool
 | .e _=>true
 | _=>false
noncomputable def KU (e:Bool)(d:Option Nat)(k:RC)(cf:L8)(ls:List o8)(env:T o8)(r:VM):Option (List EM):=
 bi e (gW r.v (fun x=>some [⟨env,r.m,some x,[]⟩]) (k cf (r.v::ls) (trD d r.v env) r.m)) (k cf (r.v::ls) (trD d r.v env) r.m)
theorem KV (o:AOp)(d:Option Nat)(g:Option (Opd×Bool))(k:RC)(cf:L8)(ls:List o8)(env:T o8)(m:Mem):
  trI o d g k cf ls env m=bnd (evG cf g o ls env m) (KU (sj o) d k cf ls env):=by
 cases o with
 | p o=>
  have h:trI (.p o) d g k cf ls env m=ob (Ji g (trP o) ls env) (fun v=>k cf (v::ls) (trD d v env) m):=by cases d<;>rfl
  rw [h]
  cases g with
  | none=>exact (tO (trP o ls env) (fun v=>(⟨v,m⟩:VM)) (fun r=>k cf (r.v::ls) (trD d r.v env) r.m)).symm
  | some p=>
   obtain⟨x,wt⟩:=p
   show ob (bi (isB wt (trO x ls env)) (trP o ls env) (some .undef)) _=bnd (bi (isB wt (trO x ls env)) (ob (trP o ls env) fun v=>some [⟨v,m⟩]) (one .undef m)) _
   rw [Fb,Na,tO];rfl
 | r o=>
  have h:trI (.r o) d g k cf ls env m=ob (Eu g (trR o) ls env m) (fun v=>k cf (v::ls) (trD d v env) m):=by cases d<;>rfl
  rw [h]
  cases g with
  | none=>exact (tO (trR o ls env m) (fun v=>(⟨v,m⟩:VM)) (fun r=>k cf (r.v::ls) (trD d r.v env) r.m)).symm
  | some p=>
   obtain⟨x,wt⟩:=p
   show ob (bi (isB wt (trO x ls env)) (trR o ls env m) (some .undef)) _=bnd (bi (isB wt (trO x ls env)) (ob (trR o ls env m) fun v=>some [⟨v,m⟩]) (one .undef m)) _
   rw [Fb,Na,tO];rfl
 | a o=>
  have h:trI (.a o) d g k cf ls env m=ob (ML g (trL o) ls env m.next) (fun r=>k cf (r.1::ls) (trD d r.1 env) (II m r.2)):=by cases d<;>rfl
  rw [h]
  cases g with
  | none=>exact (tO (trL o ls env m.next) (fun r=>(⟨r.1,II m r.2⟩:VM)) (fun r=>k cf (r.v::ls) (trD d r.v env) r.m)).symm
  | some p=>
   obtain⟨x,wt⟩:=p
   show ob (bi (isB wt (trO x ls env)) (trL o ls env m.next) (some (.undef,none))) _=bnd (bi (isB wt (trO x ls env)) (ob (trL o ls env m.next) fun r=>some [⟨r.1,II m r.2⟩]) (one .undef m)) _
   rw [Fb,Na,tO];rfl
 | e o=>
  have h:trI (.e o) d g k cf ls env m=bnd (UJ g (trE o) cf ls env m) (KU true d k cf ls env):=by cases d<;>rfl
  rw [h]
  cases g with
  | none=>rfl
  | some p=>rfl
theorem Jw {o:AOp}{d:Option Nat}{g:Option (Opd×Bool)}{k:RC}{cf:L8}{outs:List EM}(h:trI o d g k cf ls env m=some outs):
  ∃l,evG cf g o ls env m=some l∧∀r∈l,∃os,KU (sj o) d k cf ls env r=some os∧∀o∈os,o∈outs:=by
 rw [KV] at h;exact Z4 h
theorem Fe {β:Type}{v:o8}{p:o8→β}{q:β}(h:v.lt n):gW v p q=q:=by
 cases v<;>first | rfl | exact h.elim
theorem Nb {e:Bool}{d:Option Nat}{k:RC}{cf:L8}{r:VM}(h:r.v.lt n):KU e d k cf ls env r=k cf (r.v::ls) (trD d r.v env) r.m:=by
 cases e with
 | false=>rfl
 | true=>exact Fe h
theorem nP {op:Op}{o:Oper}(ho:o.op=op){v:o8}(hm:RM P G ι m w.heap)(hg:(execOp a.eval o).run P w=.ok (.value (I4 ι v)) w)(hlt:v.lt (m.nm ι)):
  Does P a.eval o w (dw P G ι m w [⟨v,m⟩]):=Q8 hg ⟨_,List.mem_singleton.2 rfl,ι,Step.refl hm,hlt,rfl⟩
theorem Jy {cf:L8}(hcf:tK P G cf)(s:St P ι (m.nm ι) slots done ls env a.tmps)(hm:RM P G ι m w.heap){op:Op}{ao:AOp}(h:cOp P slots done op=some ao){outs:List VM}(hv:evA cf ao ls env m=some outs):
  ∀o:Oper,o.op=op→jm P a.eval o w (Z0 P G ι m w outs):=by
 intro o ho
 cases ao with
 | p po=>
  obtain⟨v,h1,h2⟩:=J7 hv
  cases h2
  obtain⟨g1,g2⟩:=kH s h h1
  exact Z8 (nP ho hm (g2 o ho w) g1)
 | r ro=>
  obtain⟨v,h1,h2⟩:=J7 hv
  cases h2
  obtain⟨g1,g2⟩:=kI s hm (pU h) h1
  exact Z8 (nP ho hm (g2 o ho) g1)
 | a lo=>
  obtain⟨r,h1,h2⟩:=J7 hv
  cases h2
  have hn:¬ (m.nm ι) m.next:=fun ⟨_,h3,_⟩=>Nat.lt_irrefl _ (Mem.L9 hm.ok h3)
  have hs:=kL s (fun _ _=>rfl) hn (pV h) h1 w
  cases hs with
  | none hlt hg=>exact Z8 (nP ho hm (hg o ho w) hlt)
  | made l obj w' hmk=>
   rename_i v b
   have hlaid:=Laid.new hm.ok hm.limn b hmk.live
   have hext:∀j,m.has j→(ι.upd m.next l) j=ι j:=fun j hj=>ι.upd_ne _ fun h=>hlaid.free (h▸hj)
   obtain⟨hb,hlt⟩:=hmk.blk ((m.new b).nm (ι.upd m.next l)) (Mem.aA hlaid.has hext) hlaid.self (by show ((ι.upd m.next l) m.next).cap=l.cap;rw [Inj.U0])
   exact Z8 (Q8 (hmk.run o ho) ⟨_,List.mem_singleton.2 rfl,_,Step.lay hm hlaid hmk.grew hmk.loc hmk.spot hb hmk.free,hlt,rfl⟩)
  | tail l hp hb hg hlt=>
   rename_i v p
   have hlaid:=Laid.new hm.ok hm.limn (.tail p) rfl
   have hext:∀j,m.has j→(ι.upd m.next l) j=ι j:=fun j hj=>ι.upd_ne _ fun h=>hlaid.free (h▸hj)
   refine Z8 (Q8 (hg o ho w) ⟨_,List.mem_singleton.2 rfl,_,Step.name hm hlaid rfl ⟨hlaid.has p hp,?_⟩,hlt _ (Mem.aA hlaid.has hext) hlaid.self (by show ((ι.upd m.next l) m.next).cap=l.cap;rw [Inj.U0]),rfl⟩)
   rw [hext p hp];exact hb
 | e eo=>exact xw hcf s hm h hv o ho
theorem St.mono {ι':Inj}{n':Nm}{tmps:Array Value}(s:St P ι n slots done ls env tmps)(hi:∀i,n i→ι' i=ι i)(hn:n.le n'):St P ι' n' slots done ls env tmps where
 ls t k hk:=by
  obtain⟨v,h1,h2,h3⟩:=s.ls t k hk
  exact⟨v,h1,o8.Q9 hn v h2,by rw [h3,Q7 hi v h2]⟩
 env:=s.env.mono hi hn
 glob i hg:=by rw [hi i (s.gn i hg)];exact s.glob i hg
 gn g hg:=(hn g (s.gn g hg)).1
theorem gT (t:Nat):∀(l:List (Option Nat)) (i j:Nat),fK t l (i+j)=(fK t l i).map (· + j)
 | [],i,j=>rfl
 | some x::l,i,j=>by
  simp only [fK]
  cases Nat.beq x t with
  | true=>simp
  | false=>simp only [cond_false];rw [show i+j+1=(i+1)+j from by omega];exact gT t l (i+1) j
 | none::l,i,j=>by
  simp only [fK];rw [show i+j+1=(i+1)+j from by omega];exact gT t l (i+1) j
def atZ (d:Option Tmp)(v:Value)(tmps:Array Value):Array Value:=match d with
 | some t=>tmps.setIfInBounds t v
 | none=>tmps
theorem St.put {tmps:Array Value}(s:St P ι n slots done ls env tmps)(d:Option Tmp)(hd:∀t,d=some t→t<tmps.size){v:o8}(hv:v.lt n):
  St P ι n slots (d::done) (v::ls) (trD (KP slots d) v env) (atZ d (I4 ι v) tmps) where
 ls t k hk:=by
  cases d with
  | none=>
   simp only [fK] at hk
   rw [gT t done 0 1] at hk
   obtain⟨k',hk',rfl⟩:=Option.map_eq_some_iff.1 hk
   obtain⟨u,h1,h2,h3⟩:=s.ls t k' hk'
   exact⟨u,by simpa using h1,h2,h3⟩
  | some t0=>
   simp only [fK] at hk
   cases hb:Nat.beq t0 t with
   | true=>
    rw [hb] at hk;cases hk
    obtain rfl:=Nat.eq_of_beq_eq_true hb
    exact⟨v,rfl,hv,by show (tmps.setIfInBounds t0 (I4 ι v)).getD t0 undef=_;rw [U7 _ _ _ _ (hd t0 rfl),if_pos rfl]⟩
   | false=>
    rw [hb,cond_false,gT t done 0 1] at hk
    obtain⟨k',hk',rfl⟩:=Option.map_eq_some_iff.1 hk
    obtain⟨u,h1,h2,h3⟩:=s.ls t k' hk'
    refine⟨u,by simpa using h1,h2,?_⟩
    show (tmps.setIfInBounds t0 (I4 ι v)).getD t undef=_
    rw [U7 _ _ _ _ (hd t0 rfl),if_neg (fun e=>by rw [e] at hb;simp [Nat.beq_refl] at hb)];exact h3
 env:=s.env.put d hv
 glob:=s.glob
 gn:=s.gn
theorem iQ (a:Act)(d:Option Tmp)(v:Value):(a.put d v).tmps=atZ d v a.tmps∧(a.put d v).defers=a.defers:=by
 cases d<;>exact⟨rfl,rfl⟩
theorem bW (a:Act)(d:Option Tmp)(v:Value):(a.put d v).tmps.size=a.tmps.size:=by
 cases d<;>simp [Act.put]
def iR (ops:Array Oper)(done:List (Option Nat)):Option (Nat×Bool)→Option (Opd×Bool)→Prop
 | none,g=>g=none
 | some (j,wt),g=>∃og d k,ops[j]?=some og∧og.dst=some d∧fK d done 0=some k∧g=some (.loc k,wt)
noncomputable def Aq (g:Option (Opd×Bool))(ls:List o8)(env:T o8):Bool:=match g with
 | none=>true
 | some (x,wt)=>isB wt (trO x ls env)
def bOf:Option Value→Option Bool
 | some (.bool b)=>some b
 | _=>none
theorem Db (ops:Array Oper)(tmps:Array Value)(j:Nat):yielded ops tmps j=bOf (((ops[j]?).bind (·.dst)).bind (tmps[·]?)):=by
 unfold yielded
 generalize ((ops[j]?).bind (·.dst)).bind (tmps[·]?)=z
 cases z with
 | none=>rfl
 | some v=>cases v<;>rfl
theorem Jz (wt:Bool)(v:o8):(bOf (some (I4 ι v))==some wt)=isB wt v:=by
 cases v with
 | bool b=>simp only [I4,bOf,isB,qw];cases b<;>cases wt<;>rfl
 | _=>simp [I4,isB,bOf]
theorem jQ {ops:Array Oper}{o:Oper}{g:Option (Opd×Bool)}{tmps:Array Value}(s:St P ι n slots done ls env tmps)(hg:iR ops done o.guard g):
  Region.wanted o (yielded ops tmps)=Aq g ls env:=by
 unfold Region.wanted
 cases hgd:o.guard with
 | none=>rw [hgd] at hg;obtain rfl:g=none:=hg;rfl
 | some p=>
  obtain⟨j,wt⟩:=p
  rw [hgd] at hg
  obtain⟨og,d,k,h1,h2,h3,rfl⟩:=hg
  obtain⟨v,h4,h5,h6⟩:=s.ls d k h3
  have hx:trO (.loc k) ls env=v:=by rw [zT,h4];rfl
  show (yielded ops tmps j==some wt)=isB wt (trO (.loc k) ls env)
  rw [hx,Db,h1,Option.bind_some,h2,Option.bind_some,← Jz (ι:=ι)]
  rw [Array.getD_eq_getD_getElem?] at h6
  cases ht:tmps[d]? with
  | none=>
   rw [ht] at h6
   have h6:undef=I4 ι v:=h6
   rw [← h6];rfl
  | some x=>
   rw [ht] at h6
   have h6:x=I4 ι v:=h6
   rw [h6]
theorem jR {r:Option Nat}{o:Oper}{a:Act}{w:World}{next:Act→World→Prop}{Q:Exit→Act→World→Prop}(hnd:∀c,o.op≠.defer c){R:Ending→World→Prop}(h:jm P a.eval o w R)
  (hn:∀v w',R (.returned v) w'→next (a.put o.dst v) w') (hp:∀c w',R (.panicked c) w'→Q (.panic c) a w') (ho:∀w',¬ R .outgrown w'):o.wpIn (FR r) 0 P a w next Q:=by
 refine⟨fun _ _=>trivial,?_⟩
 rw [Oper.semAt_eq _ _ _ hnd]
 unfold jm at h
 generalize (execOp a.eval o).run P w=res at h
 cases res with
 | halt x w'=>
  cases x with
  | panic v=>exact hp _ _ h
  | _=>exact h.elim
 | ok x w'=>
  cases x with
  | value v=>exact hn _ _ h
  | skip=>exact hn _ _ h
  | enter f args=>
   refine⟨(fun hc=>by cases hc),CallsIn.mono (F:=FR r) h ?_⟩
   intro e w'' hR
   cases e with
   | returned v=>exact hn _ _ hR
   | panicked c=>exact hp _ _ hR
   | outgrown=>exact absurd hR (ho _)
  | round l f tmps assign body=>
   refine⟨(fun hc=>by cases hc),RoundIn.mono (F:=FR r) h ?_⟩
   intro e w'' hR
   cases e with
   | returned v=>exact hn _ _ hR
   | panicked c=>exact hp _ _ hR
   | outgrown=>exact absurd hR (ho _)
  | _=>exact h.elim
theorem dx {r:Option Nat}{o:Oper}{a:Act}{w:World}{next:Act→World→Prop}{Q:Exit→Act→World→Prop}(hnd:∀c,o.op≠.defer c){R:Value→World→Prop}(h:Does P a.eval o w R)
  (hn:∀v w',R v w'→next (a.put o.dst v) w'):o.wpIn (FR r) 0 P a w next Q:=by
 refine jR hnd (CZ h) (fun v w' h=>?_) (fun c w' h=>?_) (fun w' h=>?_)
 ·obtain⟨u,e,h⟩:=h;cases e;exact hn _ _ h
 ·obtain⟨u,e,_⟩:=h;cases e
 ·obtain⟨u,e,_⟩:=h;cases e
theorem jS {op:Op}{ao:AOp}(h:cOp P slots done op=some ao)(hne:∀f as,ao≠.e (.defer f as)):∀c,op≠.defer c:=by
 rintro c rfl
 simp only [cOp] at h
 split at h
 ·obtain⟨_,_,h⟩:=bind_eq h
  obtain⟨_,_,h⟩:=bind_eq h
  cases h;exact hne _ _ rfl
 ·cases h
theorem mR {outs:List VM}{w':World}:¬ Z0 P G ι m w outs .outgrown w':=by
 rintro (⟨v,h,_⟩ | ⟨r,_,x,ι',_,_,_,h⟩)<;>cases h
theorem BM {op:Op}{ao:AOp}{cf:L8}{outs:List VM}(h:cOp P slots done op=some ao)(hv:evA cf ao ls env m=some outs):∀c,op≠.defer c:=by
 rintro c rfl
 simp only [cOp] at h
 split at h
 ·obtain⟨_,_,h⟩:=bind_eq h
  obtain⟨_,_,h⟩:=bind_eq h
  cases h;cases hv
 ·cases h
theorem mU {ops:Array Oper}{i:Nat}{x:Inst}{d:Option Nat}(h:ED P slots done ops i=some (x,d)):
  ∃o,ops[i]?=some o∧d=o.dst∧x.op=rQ P slots done o.op∧x.dst=KP slots o.dst∧iR ops done o.guard x.guard:=by
 obtain⟨o,h1,h⟩:=bind_eq h
 dsimp only at h
 cases hg:o.guard with
 | none=>
  rw [hg] at h
  dsimp only at h
  cases h
  exact⟨o,h1,rfl,rfl,rfl,by rw [hg];rfl⟩
 | some p=>
  obtain⟨j,wt⟩:=p
  rw [hg] at h
  dsimp only at h
  obtain⟨og,h3,h⟩:=bind_eq h
  obtain⟨dd,h4,h⟩:=bind_eq h
  obtain⟨k,h5,h⟩:=bind_eq h
  cases h
  exact⟨o,h1,rfl,rfl,rfl,by rw [hg];exact⟨og,dd,k,h3,h4,h5,rfl⟩⟩
theorem Nc {r:Option Nat}{cf:L8}(hcf:tK P G cf)(s:St P ι (m.nm ι) slots done ls env a.tmps)(hm:RM P G ι m w.heap){ops:Array Oper}{o:Oper}{g:Option (Opd×Bool)}(hg:iR ops done o.guard g)
  {outs:List VM} (hv:evG cf g (rQ P slots done o.op) ls env m=some outs) {K:Act→World→Prop} {Q:Exit→Act→World→Prop}
  (hK:∀v∈outs,∀ι' w',Step P G ι m w ι' v.m w'→v.v.lt (v.m.nm ι')→K (a.put o.dst (I4 ι' v.v)) w')
  (hP:∀v∈outs,∀x ι' w',v.v=.pan x→Step P G ι m w ι' v.m w'→x.lt (v.m.nm ι')→Q (.panic [{v:=I4 ι' x,recovered:=false}]) a w'):
  if Region.wanted o (yielded ops a.tmps) then o.wpIn (FR r) 0 P a w K Q else (∀f,o.about P w a.eval=some f→(FR r).fn f)∧K (a.put o.dst undef) w:=by
 rw [jQ s hg]
 have hrun:evA cf (rQ P slots done o.op) ls env m=some outs→o.wpIn (FR r) 0 P a w K Q:=by
  intro hv
  cases hc:cOp P slots done o.op with
  | none=>simp only [rQ,hc] at hv;cases hv
  | some ao=>
   simp only [rQ,hc] at hv
   refine jR (BM hc hv) (Jy hcf s hm hc hv o rfl) ?_ ?_ fun _=>mR
   ·rintro v w' (⟨u,hu,x,hx,ι',h1,h2,rfl⟩ | ⟨_,_,_,_,_,_,_,h⟩)
    ·cases hu;exact hK x hx ι' w' h1 h2
    ·cases h
   ·rintro c w' (⟨u,hu,_⟩ | ⟨x,hx,y,ι',h1,h2,h3,h4⟩)
    ·cases hu
    ·cases h4;exact hP x hx y ι' w' h1 h2 h3
 cases g with
 | none=>exact hrun hv
 | some p=>
  obtain⟨x,wt⟩:=p
  have hv:bi (isB wt (trO x ls env)) (evA cf (rQ P slots done o.op) ls env m) (one .undef m)=some outs:=hv
  have hgb:Aq (some (x,wt)) ls env=isB wt (trO x ls env):=rfl
  rw [hgb]
  cases hb:isB wt (trO x ls env) with
  | true=>rw [hb] at hv;simp only [if_true];exact hrun hv
  | false=>
   rw [hb] at hv;cases hv
   simp only [Bool.false_eq_true,if_false]
   refine⟨fun _ _=>trivial,?_⟩
   have:=hK ⟨.undef,m⟩ (List.mem_singleton.2 rfl) ι w (Step.refl hm) trivial
   rw [fH] at this;exact this
theorem iT {ops:Array Oper}{i:Nat}{rest:List Nat}{insts:List Inst}(h:jh P slots ops done (i::rest)=some insts):
  ∃x d l,ED P slots done ops i=some (x,d)∧jh P slots ops (d::done) rest=some l∧insts=x::l:=by
 simp only [jh] at h
 split at h
 ·split at h
  ·cases h;exact⟨_,_,_,by assumption,by assumption,rfl⟩
  ·cases h
 ·cases h
def pJ (ι:Inj):Mk→Deferred
 | .c id=>{target:=.collected (ι id).b,args:=#[]}
 | .d (.func fn a b) args=>{target:=.fn (fO ι fn) (I7 ι b).toArray,args:=(I7 ι a).toArray++(I7 ι args).toArray}
 | .d _ _=>{target:=.nil,args:=#[]}
def Ub (ι:Inj)(m:Mem):Mk→Prop
 | .c id=>m.has id∧m.lim≤id
 | .d v args=>(∃fn a b,v=.func fn a b)∧v.lt (m.nm ι)∧ltL (m.nm ι) args
def dz (ι:Inj)(m:Mem)(k:List Mk)(ds:List Deferred):Prop:=ds=k.map (pJ ι)∧∀x∈k,Ub ι m x
theorem Ub.step {ι':Inj}{m':Mem}{w':World}{x:Mk}(h:Ub ι m x)(hst:Step P G ι m w ι' m' w'):Ub ι' m' x∧pJ ι' x=pJ ι x:=by
 cases x with
 | c id=>exact⟨⟨hst.has id h.1,by rw [hst.lim];exact h.2⟩,by simp only [pJ,hst.ext id h.1]⟩
 | d v args=>
  obtain⟨⟨fn,a,b,rfl⟩,h1,h2⟩:=h
  have e:=hst.I4 h1
  have hle:=Mem.aA hst.has hst.ext
  refine⟨⟨⟨fn,a,b,rfl⟩,o8.Q9 hle _ h1,aW hle _ h2⟩,?_⟩
  have e2:=aP (n:=m.nm ι) hst.ext args h2
  simp only [I4,Value.func.injEq] at e
  obtain⟨e3,e4,e5⟩:=e
  simp only [pJ,e2,e3,e4,e5]
theorem dz.step {ι':Inj}{m':Mem}{w':World}{k:List Mk}{ds:List Deferred}(h:dz ι m k ds)(hst:Step P G ι m w ι' m' w'):dz ι' m' k ds:=by
 refine⟨?_,fun x hx=>((h.2 x hx).step hst).1⟩
 rw [h.1]
 exact List.map_congr_left fun x hx=>((h.2 x hx).step hst).2.symm
def KX (ι:Inj)(e:EM):Exit:=match e.px with
 | none=>.normal
 | some x=>.panic [{v:=I4 ι x,recovered:=false}]
theorem nQ {i:Inst}{l:List Inst}(h:l≠[]∨lY i=none):eH (i::l)=trI i.op i.dst i.guard (eH l):=by
 cases l with
 | cons=>rfl
 | nil=>
  rcases h with h | h
  ·exact absurd rfl h
  ·show wH i=trI i.op i.dst i.guard u7
   unfold wH;rw [h]
theorem UW {r:Option Nat}(hr:r=none)(s:St P ι (m.nm ι) slots done ls env a.tmps)(hm:RM P G ι m w.heap){ops:Array Oper}{o:Oper}{x:Inst}(h2:x.op=rQ P slots done o.op)(h3:x.dst=KP slots o.dst)(h4:iR ops done o.guard x.guard)
  {f:Opd} {as:List Opd} (hd:lY x=some (f,as)) {outs:List EM} {cf:L8} (hv:Jh (trO f) (je as) cf ls env m=some outs) {Q:Exit→Act→World→Prop}
  (hQ:∀e∈outs,∀ι' w' a',Step P G ι m w ι' e.m w'→aL ι' (e.m.nm ι') slots e.env a'.tmps→a'.defers=e.mks.map (pJ ι')++a.defers→(∀y∈e.mks,Ub ι' e.m y)→a'.tmps.size=a.tmps.size→(∀y,e.px=some y→y.lt (e.m.nm ι'))→Q (KX ι' e) a' w'):
  if Region.wanted o (yielded ops a.tmps) then o.wpIn (FR r) 0 P a w (Q .normal) Q else (∀f,o.about P w a.eval=some f→(FR r).fn f)∧Q .normal (a.put o.dst undef) w:=by
 subst hr
 obtain⟨op,dst,guard⟩:=x
 have h2:op=rQ P slots done o.op:=h2
 have h3:dst=KP slots o.dst:=h3
 have h4:iR ops done o.guard guard:=h4
 have hform:op=.e (.defer f as)∧guard=none∧dst=none:=by
  unfold lY at hd
  split at hd
  ·rename_i g1 g2 g3
   cases hd
   exact⟨g1,g2,g3⟩
  ·cases hd
 obtain⟨rfl,rfl,rfl⟩:=hform
 have hw:Region.wanted o (yielded ops a.tmps)=true:=by rw [jQ s h4];rfl
 rw [hw,if_pos rfl]
 have hc:cOp P slots done o.op=some (.e (.defer f as)):=by
  unfold rQ at h2
  split at h2
  ·rename_i ao hao;rw [hao,← h2]
  ·cases h2
 cases hop:o.op with
 | defer c=>
  rw [hop] at hc
  cases qH hc with
  | defer g1 g2 g3=>
   obtain⟨e1,e2⟩:=J2 s g2
   obtain⟨e3,e4⟩:=Am s g3
   obtain⟨fn,x,y,e5,hv⟩:=zU hv
   cases hv
   rw [e5] at e1 e2
   refine⟨fun _ _=>trivial,?_⟩
   have hrun:(Oper.semAt none a.eval o).run P w=.ok (.defer (pJ ι (.d (.func fn x y) (evs (je as) ls env)))) w:=by
    rw [Oper.semAt_none]
    simp [execOp,hop,resolve,g1,e1,e3,I4,Deferred.ofValue,pJ]
   show o.uponIn (FR none) 0 P a (Q .normal) Q ((Oper.semAt none a.eval o).run P w)
   rw [hrun]
   have hen:=s.env.put o.dst (v:=.undef) trivial
   rw [← h3,fH] at hen
   refine hQ _ (List.mem_singleton.2 rfl) ι w _ (Step.refl hm) ?_ ?_ ?_ ?_ (fun y hy=>by cases hy)
   ·rw [(iQ _ o.dst undef).1];exact hen
   ·rw [(iQ _ o.dst undef).2];rfl
   ·intro z hz
    obtain rfl:=List.mem_singleton.1 hz
    exact⟨⟨_,_,_,rfl⟩,e2,e4⟩
   ·rw [bW]
 | _=>
  rw [hop] at hc
  cases qH hc
theorem Fg {r:Option Nat}{cf:L8}(hcf:tK P G cf){ops:Array Oper}{nt:Nat}(hin:∀(i:Nat)(o:Oper)(t:Tmp),ops[i]?=some o→o.dst=some t→t<nt){Q:Exit→Act→World→Prop}:
  ∀(l:List Nat) (done:List (Option Nat)) (insts:List Inst),jh P slots ops done l=some insts→(fJ insts=true→r=none)→∀(ls:List o8) (env:T o8) (m:Mem) (ι:Inj) (w:World) (a:Act) (outs:List EM),
   RM P G ι m w.heap→nt≤a.tmps.size→St P ι (m.nm ι) slots done ls env a.tmps→eH insts cf ls env m=some outs→
   (∀e∈outs,∀ι' w' a',Step P G ι m w ι' e.m w'→aL ι' (e.m.nm ι') slots e.env a'.tmps→a'.defers=e.mks.map (pJ ι')++a.defers→(∀y∈e.mks,Ub ι' e.m y)→a'.tmps.size=a.tmps.size→(∀y,e.px=some y→y.lt (e.m.nm ι'))→Q (KX ι' e) a' w')→
   wpOpsIn (FR r) 0 P ops Q l a w:=by
 intro l
 induction l with
 | nil=>
  intro done insts hc hdr ls env m ι w a outs hm hnt s hv hQ
  simp only [jh,Option.some.injEq] at hc;subst hc
  have hv:some [EM.mk env m none []]=some outs:=hv
  cases hv
  exact hQ _ (List.mem_singleton.2 rfl) ι w a (Step.refl hm) s.env rfl (fun y hy=>by cases hy) rfl (fun y hy=>by cases hy)
 | cons i rest ih=>
  intro done insts hc hdr ls env m ι w a outs hm hnt s hv hQ
  obtain⟨x,d,l,hx,hl,rfl⟩:=iT hc
  obtain⟨o,h1,rfl,h2,h3,h4⟩:=mU hx
  simp only [wpOpsIn,h1]
  by_cases hdd:l≠[]∨lY x=none
  ·rw [nQ hdd] at hv
   obtain⟨vs,hvs,hk⟩:=Jw hv
   rw [h2] at hvs
   refine Nc hcf s hm h4 hvs ?_ ?_
   ·intro v hvm ι' w' hst hlt
    obtain⟨os,hos,hsub⟩:=hk v hvm
    rw [Nb hlt,h3] at hos
    have s':=(St.mono (n:=m.nm ι) s hst.ext (Mem.aA hst.has hst.ext)).put o.dst (fun t ht=>Nat.lt_of_lt_of_le (hin i o t h1 ht) hnt) hlt
    refine ih _ _ hl (fun h=>hdr (by simp [fJ,h])) _ _ _ ι' w' (a.put o.dst (I4 ι' v.v)) os hst.rm (by rw [bW];exact hnt) (by rw [(iQ a o.dst (I4 ι' v.v)).1];exact s') hos ?_
    intro e he ι'' w'' a'' hst' hen hdef hmk hsz hpx
    exact hQ e (hsub e he) ι'' w'' a'' (hst.trans hst') hen (by rw [hdef,(iQ a o.dst _).2]) hmk (hsz.trans (bW a o.dst _)) hpx
   ·intro v hvm y ι' w' hvy hst hlt
    obtain⟨os,hos,hsub⟩:=hk v hvm
    have hE:sj x.op=true:=by
     cases hb:sj x.op with
     | true=>rfl
     | false=>
      exfalso
      exact not_pan hcf s hm h4 h2 hb hvs hvm hvy
    have hos:some [(⟨env,v.m,some y,[]⟩:EM)]=some os:=by
     have:KU (sj x.op) x.dst (eH l) cf ls env v=some [⟨env,v.m,some y,[]⟩]:=by
      unfold KU;rw [hE,hvy];rfl
     rw [← hos,this]
    cases hos
    exact hQ _ (hsub _ (List.mem_singleton.2 rfl)) ι' w' a hst (hst.env s.env) rfl (fun y hy=>by cases hy) rfl (fun z hz=>by cases hz;exact hlt)
  ·simp only [not_or,Decidable.not_not] at hdd
   obtain⟨rfl,hdf⟩:=hdd
   cases hdo:lY x with
   | none=>exact absurd hdo hdf
   | some p=>
    obtain⟨f,as⟩:=p
    have hr:r=none:=hdr (by simp [fJ,hdo])
    have hv:Jh (trO f) (je as) cf ls env m=some outs:=by
     have:eH [x]=Jh (trO f) (je as):=by
      show wH x=_
      unfold wH;rw [hdo]
     rw [← this];exact hv
    have hrest:rest=[]:=by
     cases rest with
     | nil=>rfl
     | cons j rest=>
      obtain⟨_,_,_,_,_,h⟩:=iT hl
      cases h
    subst hrest
    exact UW hr s hm h2 h3 h4 hdo hv hQ
where
 not_pan {P:Program} {G:Mem} {ι:Inj} {m:Mem} {w:World} {slots:List Nat} {done:List (Option Nat)} {ls:List o8} {env:T o8} {a:Act} {cf:L8} (hcf:tK P G cf) (s:St P ι (m.nm ι) slots done ls env a.tmps) (hm:RM P G ι m w.heap) {ops:Array Oper} {o:Oper} {x:Inst}
   (h4:iR ops done o.guard x.guard) (h2:x.op=rQ P slots done o.op) (hb:sj x.op=false) {vs:List VM} (hvs:evG cf x.guard (rQ P slots done o.op) ls env m=some vs) {v:VM} (hvm:v∈vs) {y:o8} (hvy:v.v=.pan y):False:=by
  rw [← h2] at hvs
  have key:evA cf x.op ls env m=some vs→False:=by
   intro hv
   cases hc:cOp P slots done o.op with
   | none=>rw [h2] at hb;simp [rQ,hc,sj] at hb
   | some ao=>
    have hxo:x.op=ao:=by rw [h2];simp [rQ,hc]
    rw [hxo] at hv hb
    cases ao with
    | p po=>
     obtain⟨u,h5,h6⟩:=J7 hv
     cases h6
     obtain rfl:=List.mem_singleton.1 hvm
     have:=(kH s hc h5).1
     have hvy:u=.pan y:=hvy
     rw [hvy] at this;exact this
    | r ro=>
     obtain⟨u,h5,h6⟩:=J7 hv
     cases h6
     obtain rfl:=List.mem_singleton.1 hvm
     have:=(kI s hm (pU hc) h5).1
     have hvy:u=.pan y:=hvy
     rw [hvy] at this;exact this
    | a lo=>
     obtain⟨u,h5,h6⟩:=J7 hv
     cases h6
     obtain rfl:=List.mem_singleton.1 hvm
     have hvy1:u.1=.pan y:=hvy
     clear hvm hvs hv hvy
     have hvy:=hvy1
     clear hvy1
     have hn:¬ (m.nm ι) m.next:=fun ⟨_,h3,_⟩=>Nat.lt_irrefl _ (Mem.L9 hm.ok h3)
     have hs:=kL s (fun _ _=>rfl) hn (pV hc) h5 w
     cases hs with
     | none hlt hg=>dsimp only at hvy;subst hvy;exact hlt
     | made l obj w' hmk=>
      have:=(hmk.blk ⟨fun _=>True,fun i=>if i=m.next then l.cap else (ι i).cap⟩ (fun i hi=>⟨trivial,by show (if i=m.next then l.cap else (ι i).cap)=(ι i).cap;rw [if_neg];rintro rfl;exact hn hi⟩) trivial (if_pos rfl)).2
      dsimp only at hvy;subst hvy;exact this
     | tail l hp hbb hg hlt=>
      have:=hlt ⟨fun _=>True,fun i=>if i=m.next then l.cap else (ι i).cap⟩ (fun i hi=>⟨trivial,by show (if i=m.next then l.cap else (ι i).cap)=(ι i).cap;rw [if_neg];rintro rfl;exact hn hi⟩) trivial (if_pos rfl)
      dsimp only at hvy;subst hvy;exact this
    | e eo=>simp [sj] at hb
  cases hg:x.guard with
  | none=>rw [hg] at hvs;exact key hvs
  | some z=>
   obtain⟨q,wt⟩:=z
   rw [hg] at hvs
   have hvs:bi (isB wt (trO q ls env)) (evA cf x.op ls env m) (one .undef m)=some vs:=hvs
   cases hB:isB wt (trO q ls env) with
   | true=>rw [hB] at hvs;exact key hvs
   | false=>
    rw [hB] at hvs;cases hvs
    obtain rfl:=List.mem_singleton.1 hvm
    cases hvy
end
end Go.AM
namespace Go.AM
open Go
theorem JA (v:o8):∀(n i j:Nat) (t:T o8),i≠j→way n j (H9 n i v t)=way n j t:=by
 intro n
 induction n with
 | zero=>intro i j t h;rfl
 | succ n ih=>
  intro i j t h
  cases t with
  | e=>
   cases i with
   | zero=>rfl
   | succ i=>rcases Nat.mod_two_eq_zero_or_one i with h0 | h0<;>simp only [H9,h0]<;>rfl
  | nd l x r=>
   cases i with
   | zero=>
    cases j with
    | zero=>exact absurd rfl h
    | succ j=>rcases Nat.mod_two_eq_zero_or_one j with h0 | h0<;>simp only [way,H9,h0]<;>rfl
   | succ i=>
    cases j with
    | zero=>rcases Nat.mod_two_eq_zero_or_one i with h0 | h0<;>simp only [way,H9,h0]<;>rfl
    | succ j=>
     rcases Nat.mod_two_eq_zero_or_one i with h0 | h0<;>rcases Nat.mod_two_eq_zero_or_one j with h1 | h1<;>simp only [way,H9,h0,h1]
     ·exact ih (i / 2) (j / 2) l (by omega)
     ·rfl
     ·rfl
     ·exact ih (i / 2) (j / 2) r (by omega)
theorem vC {d:Option Nat}{j:Nat}(h:d≠some j)(v:o8)(ls ls':List o8)(env:T o8):trO (.slot j) ls' (trD d v env)=trO (.slot j) ls env:=by
 cases d with
 | none=>rfl
 | some i=>exact JA v 64 i j env (fun e=>h (by rw [e]))
theorem JB {d:Option Nat}{y:Opd}(h:∀j,y=.slot j→d≠some j)(v:o8)(ls:List o8)(env:T o8):trO (bump y) (v::ls) (trD d v env)=trO y ls env:=by
 cases y with
 | loc k=>rw [zT];show trO (.loc (k+1)) (v::ls) (trD d v env)=_;rw [zT];simp
 | slot j=>exact vC (h j rfl) v ls (v::ls) env
 | con c=>rfl
section
variable {f:Opd→Opd}{ls ls':List o8}{env env':T o8}
theorem xG {o:AOp}(h:∀x∈TV o,Sm f ls env ls' env' x)(cf:L8)(m:Mem):evA cf (mapA f o) ls' env' m=evA cf o ls env m:=by
 cases o with
 | p o=>show ob (trP (nH f o) ls' env') _=ob (trP o ls env) _;rw [xB h]
 | r o=>show ob (trR (IJ f o) ls' env' m) _=ob (trR o ls env m) _;rw [xC h]
 | a o=>show ob (trL (KL f o) ls' env' m.next) _=ob (trL o ls env m.next) _;rw [xD h]
 | e o=>exact xE h cf m
theorem Fh {o:AOp}{g:Option (Opd×Bool)}(h:∀x∈TV o,Sm f ls env ls' env' x)(hg:∀p,g=some p→Sm f ls env ls' env' p.1)(cf:L8)(m:Mem):
  evG cf (g.map fun p=>(f p.1,p.2)) (mapA f o) ls' env' m=evG cf g o ls env m:=by
 cases g with
 | none=>exact xG h cf m
 | some p=>
  obtain⟨x,wt⟩:=p
  have h0:trO (f x) ls' env'=trO x ls env:=hg _ rfl
  show bi (isB wt (trO (f x) ls' env')) (evA cf (mapA f o) ls' env' m) (one .undef m)=bi (isB wt (trO x ls env)) (evA cf o ls env m) (one .undef m)
  rw [h0,xG h]
end
theorem JC {α β:Type}{x:Option (List α)}{f g:α→Option (List β)}(h:∀a os,f a=some os→g a=some os){outs:List β}(hx:bnd x f=some outs):bnd x g=some outs:=by
 have key:∀(l:List α) (outs:List β),CF f l=some outs→CF g l=some outs:=by
  intro l
  induction l with
  | nil=>intro outs h;exact h
  | cons a l ih=>
   intro outs hl
   rw [tL] at hl ⊢
   obtain⟨x,h1,hl⟩:=J7 hl
   obtain⟨y,h2,hl⟩:=J7 hl
   rw [h _ _ h1,ih _ h2];exact hl
 cases x with
 | none=>cases hx
 | some l=>
  match l,hx with
  | [],hx=>exact hx
  | [a],hx=>exact h a _ hx
  | a::b::t,hx=>exact key (a::b::t) _ hx
theorem Fj (f:Opd→Opd)(o:AOp):sj (mapA f o)=sj o:=by cases o<;>rfl
theorem Fp {β:Type}{v:o8}{p:o8→β}{q:β}(h:¬ ∃x,v=.pan x):gW v p q=q:=by
 cases v<;>first | rfl | exact absurd ⟨_,rfl⟩ h
theorem Fq {e:Bool}{d:Option Nat}{k k':RC}{cf:L8}{ls ls':List o8}{env:T o8}{r:VM}{os:List EM}(h:∀os,k cf (r.v::ls') (trD d r.v env) r.m=some os→k' cf (r.v::ls) (trD d r.v env) r.m=some os)
  (hk:KU e d k cf ls' env r=some os):KU e d k' cf ls env r=some os:=by
 cases e with
 | false=>exact h os hk
 | true=>
  have hk:gW r.v (fun x=>some [⟨env,r.m,some x,[]⟩]) (k cf (r.v::ls') (trD d r.v env) r.m)=some os:=hk
  show gW r.v (fun x=>some [⟨env,r.m,some x,[]⟩]) (k' cf (r.v::ls) (trD d r.v env) r.m)=some os
  by_cases hx:∃x,r.v=.pan x
  ·obtain⟨v,mm⟩:=r
   obtain⟨x,hx⟩:=hx
   have hx:v=.pan x:=hx
   subst hx
   exact hk
  ·rw [Fp hx] at hk ⊢
   exact h os hk
theorem Fu {f:Opd→Opd}{i:Inst}{g:Option (Opd×Bool)}(h:lY i=none)(hg:g.isNone=i.guard.isNone):lY ⟨mapA f i.op,i.dst,g⟩=none:=by
 obtain⟨op,dst,guard⟩:=i
 cases guard with
 | some p=>
  cases g with
  | none=>cases hg
  | some q=>simp [lY]
 | none=>
  cases g with
  | some q=>cases hg
  | none=>
   cases dst with
   | some d=>simp [lY]
   | none=>
    cases op with
    | e o=>cases o<;>first | rfl | cases h
    | _=>rfl
def Rl (r:List Opd)(ls ls':List o8)(env:T o8):Prop:=∀k,trO (r.getD k (.con .undef)) ls' env=(ls[k]?).getD .undef
theorem Rl.rn {r:List Opd}{ls ls':List o8}{env:T o8}(h:Rl r ls ls' env)(x:Opd):Sm (rn r) ls env ls' env x:=by
 cases x with
 | loc k=>show trO (r.getD k (.con .undef)) ls' env=trO (.loc k) ls env;rw [h k,zT]
 | slot j=>rfl
 | con c=>rfl
theorem qM {i:Inst}{l:List Inst}(h:fJ (i::l)=false):eH (i::l)=trI i.op i.dst i.guard (eH l):=by
 refine nQ (.inr ?_)
 simp only [fJ,Bool.or_eq_false_iff] at h
 cases hd:lY i with
 | none=>rfl
 | some p=>rw [hd] at h;cases h.1
theorem xH (cf:L8):∀(l:List Inst) (r:List Opd) (ls ls':List o8) (env:T o8) (m:Mem) (outs:List EM),fJ l=false→Rl r ls ls' env→(∀j,.slot j∈r→qg j l=false)→
  eH (jf r l) cf ls' env m=some outs→eH l cf ls env m=some outs:=by
 intro l
 induction l with
 | nil=>intro r ls ls' env m outs _ _ _ h;exact h
 | cons i l ih=>
  intro r ls ls' env m outs hnd hr hs h
  have hnd':fJ l=false:=by simp only [fJ,Bool.or_eq_false_iff] at hnd;exact hnd.2
  have hs':∀j,.slot j∈r→i.dst≠some j∧qg j l=false:=fun j hj=>by
   have:=hs j hj
   simpa [qg] using this
  have keep:eH (⟨mapA (rn r) i.op,i.dst,i.guard.map fun p=>(rn r p.1,p.2)⟩::jf (.loc 0::r.map bump) l) cf ls' env m=some outs→eH (i::l) cf ls env m=some outs:=by
   intro h
   have hd:lY i=none:=by
    simp only [fJ,Bool.or_eq_false_iff] at hnd
    cases hd:lY i with
    | none=>rfl
    | some p=>rw [hd] at hnd;cases hnd.1
   rw [nQ (.inr (Fu hd (by cases i.guard<;>rfl)))] at h
   rw [qM hnd]
   have h:trI (mapA (rn r) i.op) i.dst (i.guard.map fun p=>(rn r p.1,p.2)) (eH (jf (.loc 0::r.map bump) l)) cf ls' env m=some outs:=h
   rw [KV] at h ⊢
   rw [Fh (fun x _=>hr.rn x) (fun p _=>hr.rn p.1),Fj] at h
   refine JC (fun v os hv=>Fq (fun os hv=>?_) hv) h
   refine ih _ _ _ _ _ _ hnd' ?_ ?_ hv
   ·intro k
    cases k with
    | zero=>rfl
    | succ k=>
     have e1:(Opd.loc 0::r.map bump).getD (k+1) (.con .undef)=bump (r.getD k (.con .undef)):=by
      rw [List.getD_eq_getElem?_getD,List.getD_eq_getElem?_getD,List.getElem?_cons_succ,List.getElem?_map]
      cases r[k]? <;> rfl
     rw [e1,JB,hr k]
     ·simp
     ·intro j hj
      have:Opd.slot j∈r:=by
       rw [List.getD_eq_getElem?_getD] at hj
       cases hk:r[k]? with
       | none=>rw [hk] at hj;cases hj
       | some y=>rw [hk] at hj;obtain rfl:y=.slot j:=hj;exact List.mem_of_getElem? hk
      exact (hs' j this).1
   ·intro j hj
    rcases List.mem_cons.1 hj with hj | hj
    ·cases hj
    ·obtain⟨y,hy,hyj⟩:=List.mem_map.1 hj
     cases y with
     | slot j'=>obtain rfl:j'=j:=by simpa [bump] using hyj
                exact (hs' _ hy).2
     | loc k=>simp [bump] at hyj
     | con c=>simp [bump] at hyj
  have drop:∀x,i.op=.p (.mov x)→i.dst=none→i.guard=none→(∀j,rn r x=.slot j→qg j l=false)→eH (jf (rn r x::r) l) cf ls' env m=some outs→eH (i::l) cf ls env m=some outs:=by
   intro x h1 h2 h3 h4 h
   rw [qM hnd,h1,h2,h3]
   show eH l cf (trO x ls env::ls) env m=some outs
   refine ih _ _ _ _ _ _ hnd' ?_ ?_ h
   ·intro k
    cases k with
    | zero=>exact hr.rn x
    | succ k=>simpa using hr k
   ·intro j hj
    rcases List.mem_cons.1 hj with hj | hj
    ·exact h4 j hj.symm
    ·exact (hs' j hj).2
  simp only [jf] at h
  split at h
  ·rename_i x h1 h2 h3
   split at h
   ·rename_i j hj
    cases hw:qg j l with
    | true=>rw [hw] at h;exact keep h
    | false=>
     rw [hw] at h
     refine drop x h1 h2 h3 (fun j' hj'=>?_) (by rw [hj];exact h)
     rw [hj] at hj';cases hj';exact hw
   ·rename_i hns
    exact drop x h1 h2 h3 (fun j hj=>absurd hj (hns j)) h
  ·exact keep h
end Go.AM
namespace Go.AM
open Go
section
variable {P:Program}{G:Mem}{ι:Inj}{n:Nm}{m:Mem}{w:World}{slots:List Nat}{done:List (Option Nat)}{ls:List o8}{env:T o8}{a:Act}
def KY:X5→Exit
 | .normal=>.normal
 | .exit id=>.exit id
 | .ret=>.ret
def JD (ι:Inj)(o:Out):Exit:=match o.pv with
 | none=>KY o.x
 | some x=>.panic [{v:=I4 ι x,recovered:=false}]
def Uc (ι:Inj)(o:Out):Prop:=∀x,o.pv=some x→o.x=.ret∧x.lt (o.m.nm ι)
theorem Z9 {ι:Inj}{o:Out}(h:o.pv=none):Uc ι o:=fun x hx=>by rw [h] at hx;cases hx
theorem gZ {ι:Inj}{o:Out}(h:Uc ι o)(hx:o.x≠.ret):o.pv=none:=by
 cases hp:o.pv with
 | none=>rfl
 | some x=>exact absurd (h x hp).1 hx
def Ud (ι:Inj)(m:Mem)(ir r:Option Nat):Prop:=r=ir.map (fun l=>(ι l).b)∧∀l,ir=some l→m.has l
theorem Ud.step {ι':Inj}{m':Mem}{w':World}{ir r:Option Nat}{G:Mem}(h:Ud ι m ir r)(hst:Step P G ι m w ι' m' w'):Ud ι' m' ir r:=by
 refine⟨?_,fun l hl=>hst.has l (h.2 l hl)⟩
 rw [h.1]
 cases ir with
 | none=>rfl
 | some l=>simp [hst.ext l (h.2 l rfl)]
theorem St.start (hm:RM P G ι m w.heap){tmps:Array Value}(h:aL ι (m.nm ι) slots env tmps):St P ι (m.nm ι) slots [] [] env tmps:=
 ⟨fun t k hk=>by simp [fK] at hk,h,hm.glob,hm.ghas⟩
theorem mV {β:Type}{b:Option Blk}{f:LoopState→Option X5→T o8→List (Option Nat)→aV→aV→Option β}{r:β}(h:lZ b f=some r):
  ∃st pend env params assign body,b=some (.loop st pend env params assign body)∧f st pend env params assign body=some r:=by
 unfold lZ at h
 split at h
 ·exact⟨_,_,_,_,_,_,rfl,h⟩
 ·cases h
theorem Au {cf:L8}(hcf:tK P G cf)(hm:RM P G ι m w.heap){g:Operand}{l:Nat}{fv:o8}(hg:a.eval g=I4 ι fv)(hlt:fv.lt (m.nm ι))(hl:m.has l){outs:List VM}
  (h:MO cf m [.func (.yield l) [] []] fv=some outs):
  ∃d f args,(resolve a.eval (rangeCall g (ι l).b) 0).run P w=.ok d w∧(invoke d.target d.args).run P w=.ok (.enter f args) w∧CallsIn Fence.wide 0 P f args w (Z0 P G ι m w outs):=by
 obtain⟨fn,x,y,rfl,h⟩:=zU h
 obtain⟨_,hx,hy⟩:=hlt
 cases fn with
 | func gf=>
  have h:cf (.func gf) (gJ x (gJ [.func (.yield l) [] []] y)) m=some outs:=h
  rw [U9,U9] at h
  obtain⟨hf,hcall⟩:=hcf.func h
  refine⟨{target:=.fn (.func gf) (I7 ι y).toArray,args:=(I7 ι x).toArray ++ #[.func (.yield (ι l).b) #[] #[]]},gf,_,?_,?_,hcall hm (dQ hx ⟨⟨hl,trivial,trivial⟩,hy⟩)⟩
  ·show (Deferred.ofValue (a.eval g) (#[Operand.const (.func (.yield (ι l).b) #[] #[])].map a.eval)).run P w=_
   rw [hg]
   simp [I4,fO,Deferred.ofValue,Act.eval]
  ·simp [invoke,gQ hf,eF,I7,I4,fO]
 | _=>cases h
theorem vD {F:Fence}{nn:Nat}{Q:Exit→Act→World→Prop}{x:X5}(h:Q (KY x) a w):(exitCode x).wpIn F nn P Q a w:=by
 cases x with
 | normal=>exact wpIn_skip h
 | exit id=>exact wpIn_exit h
 | ret=>exact wpIn_ret h
theorem BN {r:Option Nat}{cf:L8}(hcf:tK P G cf){nt:Nat}{g:Operand}{ps:Array Tmp}{assign body:Code}{z:Opd}{x y:aV}(hz:ak P slots [] g=some z)(hx:X6 P slots assign=some x)(hy:X6 P slots body=some y)
  (ha:tmpsIn nt assign=true) (hb:tmpsIn nt body=true) {w1:World} {m1:Mem} {ι1:Inj} {k:List Mk} {mark:List Deferred} {D:Nat} (hm:RM P G ι m w.heap) (hst1:Step P G ι m w ι1 m1 w1)
  (hen:aL ι (m.nm ι) slots env a.tmps) (hnt:nt≤a.tmps.size)
  (henter:∀fn,(Instr.enterLoop fn a.tmps ps assign body r).run P w=.ok (w1.heap.size,mark) (w1.alloc (.loop {state:=.ready,pending:=none,fn,tmps:=a.tmps,params:=ps,assign,body,defers:=D})))
  (hmarks:dz ι1 m1 k (mark++a.defers)) {outs:List Out} (hv:MP cf (trO z [] env) (ps.toList.map fun t=>idxOf t slots 0) x y env m1 k=some outs) {Q:Exit→Act→World→Prop}
  (hQ:∀o∈outs,∀ι' w' a',Step P G ι m w ι' o.m w'→aL ι' (o.m.nm ι') slots o.env a'.tmps→a'.tmps.size=a.tmps.size→dz ι' o.m o.marks a'.defers→Uc ι' o→Q (JD ι' o) a' w'):
  (Code.rangeFunc g ps assign body).wpIn (FR r) 0 P Q a w:=by
 refine wpIn_rangeFunc fun fn _=>?_
 obtain⟨e1,e2⟩:=J2 (St.start hm hen) hz
 have hlaid:=Laid.new hst1.rm.ok hst1.rm.limn (.loop .ready none env (ps.toList.map fun t=>idxOf t slots 0) x y) rfl
 generalize hrec:({state:=.ready,pending:=none,fn,tmps:=a.tmps,params:=ps,assign,body,defers:=D}:Loop)=rec at *
 have hext:∀j,m1.has j→(ι1.upd m1.next ⟨w1.heap.size,0,0,none⟩) j=ι1 j:=fun j hj=>ι1.upd_ne _ fun h=>hlaid.free (h▸hj)
 have hst2:Step P G ι1 m1 w1 (ι1.upd m1.next ⟨w1.heap.size,0,0,none⟩) (m1.new (.loop .ready none env (ps.toList.map fun t=>idxOf t slots 0) x y)) (w1.alloc (.loop rec)):=by
  refine Step.lay (w':=w1.alloc (.loop rec)) hst1.rm hlaid (o:=.loop rec) (l:=⟨w1.heap.size,0,0,none⟩) ⟨rfl,rfl,rfl,rfl⟩ rfl rfl ?_ (by intro _ _ _ h;cases h)
  refine⟨rec,dn,by rw [← hrec],by rw [← hrec];rfl,slots,?_,by rw [← hrec],by rw [← hrec];exact hx,by rw [← hrec];exact hy,nt,by rw [← hrec];exact hnt,by rw [← hrec];exact ha,by rw [← hrec];exact hb⟩
  have:=(hst1.env hen).mono (n:=m1.nm ι1) hext (Mem.aA hlaid.has hext)
  rw [← hrec];exact this
 have hst:=hst1.trans hst2
 have hlid:((ι1.upd m1.next ⟨w1.heap.size,0,0,none⟩) m1.next).b=w1.heap.size:=by rw [Inj.U0]
 generalize hι2:ι1.upd m1.next ⟨w1.heap.size,0,0,none⟩=ι2 at *
 generalize hm2:m1.new (.loop .ready none env (ps.toList.map fun t=>idxOf t slots 0) x y)=m2 at *
 have hhas:m2.has m1.next:=hlaid.self
 have hv:bnd (MO cf m2 [.func (.yield m1.next) [] []] (trO z [] env)) (fun r=>gW r.v (fun _=>none) <| lZ (r.m.get m1.next) fun st pend _ _ _ _=>match st with
   | .busy=>none
   | _=>match pend with
    | none=>rT .normal env (r.m.set m1.next .dead) k
    | some x=>rT x env (r.m.set m1.next .dead) k)=some outs:=by rw [← hm2];exact hv
 obtain⟨vs,hvs,hk⟩:=Z4 hv
 obtain⟨d,f,args,hres,hinv,hcall⟩:=Au (a:=a) hcf hst.rm (by rw [e1];exact (hst.I4 e2).symm) (o8.Q9 (Mem.aA hst.has hst.ext) _ e2) hhas hvs
 rw [hlid] at hres
 refine⟨w1.heap.size,mark,w1.alloc (.loop rec),d,w1.alloc (.loop rec),f,args,w1.alloc (.loop rec),(by rw [← hrec];exact henter fn),hres,fun _ _=>trivial,hinv,(fun hc=>by cases hc),CallsIn.mono (F:=FR r) hcall ?_⟩
 rintro e w3 (⟨v,rfl,r0,hr0,ι3,hst3,hlt3,_⟩ | ⟨r0,hr0,x0,ι3,hx0,_⟩)
 case inr=>
  obtain⟨os,hos,_⟩:=hk r0 hr0
  rw [hx0] at hos
  cases hos
 obtain⟨os,hos,hsub⟩:=hk r0 hr0
 rw [Fe hlt3] at hos
 obtain⟨st,pend,env',params',as',bd',hget,hos⟩:=mV hos
 obtain⟨L,hL,hLok⟩:=hst3.rm.blk m1.next _ hget
 have hι3:(ι3 m1.next).b=w1.heap.size:=by rw [hst3.ext _ hhas];exact hlid
 rw [hι3] at hL
 have hlim:r0.m.lim≤m1.next:=by rw [hst3.lim,hst2.lim];exact hst1.rm.limn
 have hbusy:L.state≠.busy:=by rw [hLok.state];intro e;subst e;cases hos
 have hend:=run_endLoop (P:=P) hL hbusy
 have hst4:Step P G ι3 r0.m w3 ι3 (r0.m.set m1.next .dead) (w3.putObj w1.heap.size (.loop {L with state:=.exhausted})):=by
  refine Step.set hst3.rm hlim hget rfl rfl (o:=.loop {L with state:=.exhausted}) ⟨by rw [hι3];rfl,rfl,rfl,rfl⟩ trivial (by intro _ _ _ h;cases h)
 have hall:=(hst.trans hst3).trans hst4
 have hmk:dz ι3 (r0.m.set m1.next .dead) k (mark++a.defers):=hmarks.step ((hst2.trans hst3).trans hst4)
 have henv:aL ι3 ((r0.m.set m1.next .dead).nm ι3) slots env a.tmps:=hall.env hen
 refine⟨L.pending,_,hend,?_⟩
 have key:∀j:Option Code,j=pend.map exitCode→(match j with
   | none=>Q .normal {a with defers:=mark++a.defers} (w3.putObj w1.heap.size (.loop {L with state:=.exhausted}))
   | some c=>c.wpIn (FR r) 0 P Q {a with defers:=mark++a.defers} (w3.putObj w1.heap.size (.loop {L with state:=.exhausted}))):=by
  rintro j rfl
  cases pend with
  | none=>
   have hos:rT .normal env (r0.m.set m1.next .dead) k=some os:=by cases st<;>first | exact hos | cases hos
   cases hos
   exact hQ _ (hsub _ (List.mem_singleton.2 rfl)) ι3 _ {a with defers:=mark++a.defers} hall henv rfl hmk (Z9 rfl)
  | some x'=>
   have hos:rT x' env (r0.m.set m1.next .dead) k=some os:=by cases st<;>first | exact hos | cases hos
   cases hos
   exact vD (hQ _ (hsub _ (List.mem_singleton.2 rfl)) ι3 _ {a with defers:=mark++a.defers} hall henv rfl hmk (Z9 rfl))
 exact key _ hLok.pending
end
end Go.AM
namespace Go.AM
open Go
section
variable {P:Program}{G:Mem}
def Fv (P:Program)(G:Mem)(slots:List Nat)(nt:Nat)(cf:L8)(fuel:Nat)(r:Option Nat)(c:Code)(ac:aV):Prop:=
 ∀(Q:Exit→Act→World→Prop) (ir:Option Nat) (env:T o8) (m:Mem) (k:List Mk) (ι:Inj) (w:World) (a:Act) (outs:List Out),
  RM P G ι m w.heap→aL ι (m.nm ι) slots env a.tmps→nt≤a.tmps.size→dz ι m k a.defers→Ud ι m ir r→trC ac cf fuel ir env m k=some outs→
  (∀o∈outs,∀ι' w' a',Step P G ι m w ι' o.m w'→aL ι' (o.m.nm ι') slots o.env a'.tmps→a'.tmps.size=a.tmps.size→dz ι' o.m o.marks a'.defers→Uc ι' o→Q (JD ι' o) a' w')→
  c.wpIn (FR r) 0 P Q a w
def fV (P:Program)(G:Mem)(slots:List Nat)(nt:Nat)(cf:L8)(r:Option Nat):Prop:=
 ∀(id:Nat) (ops:Array Oper) (n:Nat) (l:List (Nat×Inst)),CK P slots ops=some (.dreg n l)→(∀(i:Nat) (o:Oper) (t:Tmp),ops[i]?=some o→o.dst=some t→t<nt)→
  ∀(Q:Exit→Act→World→Prop) (env:T o8) (m:Mem) (ι:Inj) (w:World) (a:Act) (outs:List EM),
  RM P G ι m w.heap→aL ι (m.nm ι) slots env a.tmps→nt≤a.tmps.size→sO l cf m.next [] env (reserve n m) [reserve n m]=some outs→
  (∀e∈outs,e.px=none→e.mks=[]→∀ι' w' a',Step P G ι m w ι' e.m w'→aL ι' (e.m.nm ι') slots e.env a'.tmps→a'.defers=a.defers→a'.tmps.size=a.tmps.size→Q .normal a' w')→
  (Code.region id ops true).wpIn (FR r) 0 P Q a w
theorem iU {nt id:Nat}{ops:Array Oper}{d:Bool}(h:tmpsIn nt (.region id ops d)=true)(i:Nat)(o:Oper)(t:Tmp)(ho:ops[i]?=some o)(ht:o.dst=some t):t<nt:=by
 simp only [tmpsIn,List.all_eq_true] at h
 have:=h o (by simpa using Array.mem_of_getElem? ho)
 rw [ht] at this
 exact Eq.mp Nat.blt_eq this
theorem kM {β:Type}{x:X5}{p:Option β}{q:Nat→Option β}{s:Option β}{r:β}(h:(X5.rec p q s x:Option β)=some r):
  (x=.normal∧p=some r)∨(∃id,x=.exit id∧q id=some r)∨(x=.ret∧s=some r):=by
 cases x with
 | normal=>exact .inl ⟨rfl,h⟩
 | exit id=>exact .inr (.inl ⟨id,rfl,h⟩)
 | ret=>exact .inr (.inr ⟨rfl,h⟩)
theorem kN {slots:List Nat}{nt:Nat}{cf:L8}(hcf:tK P G cf)(fuel:Nat){r:Option Nat}(hdraw:fV P G slots nt cf r):
  ∀(c:Code) (ac:aV),X6 P slots c=some ac→tmpsIn nt c=true→Fv P G slots nt cf fuel r c ac:=by
 intro c
 induction c with
 | skip=>
  intro ac hc _ Q ir env m k ι w a outs hm hen hnt hmk hir hv hQ
  simp only [X6,Option.some.injEq] at hc;subst hc
  have hv:rT .normal env m k=some outs:=hv
  cases hv
  exact wpIn_skip (hQ _ (List.mem_singleton.2 rfl) ι w a (Step.refl hm) hen rfl hmk (Z9 rfl))
 | exit id=>
  intro ac hc _ Q ir env m k ι w a outs hm hen hnt hmk hir hv hQ
  simp only [X6,Option.some.injEq] at hc;subst hc
  have hv:rT (.exit id) env m k=some outs:=hv
  cases hv
  exact wpIn_exit (hQ _ (List.mem_singleton.2 rfl) ι w a (Step.refl hm) hen rfl hmk (Z9 rfl))
 | ret=>
  intro ac hc _ Q ir env m k ι w a outs hm hen hnt hmk hir hv hQ
  simp only [X6,Option.some.injEq] at hc;subst hc
  have hv:rT .ret env m k=some outs:=hv
  cases hv
  exact wpIn_ret (hQ _ (List.mem_singleton.2 rfl) ι w a (Step.refl hm) hen rfl hmk (Z9 rfl))
 | region id ops d=>
  intro ac hc hti Q ir env m k ι w a outs hm hen hnt hmk hir hv hQ
  cases d with
  | false=>
   simp only [X6] at hc
   split at hc
   ·rename_i l hl
    cases hc
    have hbind:∃es,eH l cf [] env m=some es∧(fJ l=true→r=none)∧∀e∈es,∃os,kU k e=some os∧∀o∈os,o∈outs:=by
     cases hd:fJ l with
     | true=>
      have hv:(bif fJ l then Ev (eH l) else j4 (eH (jf [] l))) cf fuel ir env m k=some outs:=hv
      rw [hd,cond_true] at hv
      cases ir with
      | some l'=>cases hv
      | none=>
       have hv:bnd (eH l cf [] env m) (kU k)=some outs:=hv
       obtain⟨es,hes,hk⟩:=Z4 hv
       exact⟨es,hes,fun _=>hir.1,hk⟩
     | false=>
      have hv:(bif fJ l then Ev (eH l) else j4 (eH (jf [] l))) cf fuel ir env m k=some outs:=hv
      rw [hd,cond_false] at hv
      have hv:bnd (eH (jf [] l) cf [] env m) (kU k)=some outs:=hv
      obtain⟨es,hes,hk⟩:=Z4 hv
      exact⟨es,xH cf l [] [] [] env m es hd (fun k=>by simp [trO,O5]) (fun j hj=>by cases hj) hes,fun h=>(by cases h),hk⟩
    obtain⟨es,hes,hdr,hk⟩:=hbind
    refine wpIn_region (Fg hcf (iU hti) _ _ _ hl hdr [] env m ι w a es hm hnt (St.start hm hen) hes ?_)
    intro e he ι' w' a' hst hen' hdef hmkok hsz hpx
    obtain⟨os,hos,hsub⟩:=hk e he
    obtain⟨env₁,m₁,px₁,mk₁⟩:=e
    have hmk':dz ι' m₁ (mk₁++k) a'.defers:=by
     refine⟨by rw [hdef,(hmk.step hst).1,List.map_append],fun x hx=>?_⟩
     rcases List.mem_append.1 hx with hx | hx
     ·exact hmkok x hx
     ·exact (hmk.step hst).2 x hx
    cases px₁ with
    | none=>
     have hos:rT .normal env₁ m₁ (gJ mk₁ k)=some os:=hos
     rw [U9] at hos
     cases hos
     exact hQ _ (hsub _ (List.mem_singleton.2 rfl)) ι' w' a' hst hen' hsz hmk' (Z9 rfl)
    | some x=>
     have hos:some [(⟨.ret,env₁,m₁,gJ mk₁ k,some x⟩:Out)]=some os:=hos
     rw [U9] at hos
     cases hos
     exact hQ _ (hsub _ (List.mem_singleton.2 rfl)) ι' w' a' hst hen' hsz hmk' (fun y hy=>by cases hy;exact⟨rfl,hpx _ rfl⟩)
   ·cases hc
  | true=>
   simp only [X6] at hc
   have hform:∃n l,ac=.dreg n l:=by
    unfold CK at hc
    split at hc
    ·cases hc
    ·split at hc
     ·cases hc;exact⟨_,_,rfl⟩
     ·cases hc
   obtain⟨n,l,rfl⟩:=hform
   have hv:bnd (sO l cf m.next [] env (reserve n m) [reserve n m]) (kU k)=some outs:=hv
   obtain⟨es,hes,hk⟩:=Z4 hv
   refine hdraw id ops n l hc (iU hti) Q env m ι w a es hm hen hnt hes ?_
   intro e he hpx hmk0 ι' w' a' hst hen' hdef hsz
   obtain⟨os,hos,hsub⟩:=hk e he
   obtain⟨env₁,m₁,px₁,mk₁⟩:=e
   obtain rfl:px₁=none:=hpx
   obtain rfl:mk₁=[]:=hmk0
   have hos:rT .normal env₁ m₁ k=some os:=hos
   cases hos
   exact hQ _ (hsub _ (List.mem_singleton.2 rfl)) ι' w' a' hst hen' hsz (by rw [hdef];exact hmk.step hst) (Z9 rfl)
 | seq x y ihx ihy=>
  intro ac hc hti Q ir env m k ι w a outs hm hen hnt hmk hir hv hQ
  simp only [tmpsIn,Bool.and_eq_true] at hti
  simp only [X6] at hc
  split at hc
  ·rename_i cx cy hx hy
   cases hc
   have hv:bnd (trC cx cf fuel ir env m k) (fun o=>X5.rec (trC cy cf fuel ir o.env o.m o.marks) (fun _=>some [o]) (some [o]) o.x)=some outs:=hv
   obtain⟨os,hos,hk⟩:=Z4 hv
   refine wpIn_seq (ihx cx hx hti.1 _ ir env m k ι w a os hm hen hnt hmk hir hos ?_)
   intro o ho ι' w' a' hst hen' hsz hmk' hpv
   obtain⟨os',hos',hsub⟩:=hk o ho
   obtain⟨x₀,env₀,m₀,k₀,pv₀⟩:=o
   rcases kM hos' with⟨h1,h2⟩ | ⟨id,h1,h2⟩ | ⟨h1,h2⟩
   ·obtain rfl:x₀=.normal:=h1
    obtain rfl:pv₀=none:=gZ hpv (by intro e;cases e)
    refine ihy cy hy hti.2 Q ir env₀ m₀ k₀ ι' w' a' os' hst.rm hen' (by rw [hsz];exact hnt) hmk' (hir.step hst) h2 ?_
    intro o2 ho2 ι'' w'' a'' hst' hen'' hsz' hmk'' hpv'
    exact hQ o2 (hsub _ ho2) ι'' w'' a'' (hst.trans hst') hen'' (hsz'.trans hsz) hmk'' hpv'
   ·obtain rfl:x₀=.exit id:=h1
    obtain rfl:pv₀=none:=gZ hpv (by intro e;cases e)
    cases h2
    exact hQ _ (hsub _ (List.mem_singleton.2 rfl)) ι' w' a' hst hen' hsz hmk' (Z9 rfl)
   ·obtain rfl:x₀=.ret:=h1
    cases h2
    have:=hQ _ (hsub _ (List.mem_singleton.2 rfl)) ι' w' a' hst hen' hsz hmk' hpv
    cases pv₀<;>exact this
  ·cases hc
 | cond c x y ihx ihy=>
  intro ac hc hti Q ir env m k ι w a outs hm hen hnt hmk hir hv hQ
  simp only [tmpsIn,Bool.and_eq_true] at hti
  simp only [X6] at hc
  split at hc
  ·rename_i z cx cy hz hx hy
   cases hc
   obtain⟨t,h1,hv⟩:=ku hv
   obtain⟨e1,_⟩:=J2 (St.start hm hen) hz
   have h1:trO z [] env=.bool t:=h1
   refine wpIn_cond (t:=t) (by rw [e1,h1];rfl) ?_
   cases t with
   | true=>exact ihx cx hx hti.1 Q ir env m k ι w a outs hm hen hnt hmk hir hv hQ
   | false=>exact ihy cy hy hti.2 Q ir env m k ι w a outs hm hen hnt hmk hir hv hQ
  ·cases hc
 | block id x ihx=>
  intro ac hc hti Q ir env m k ι w a outs hm hen hnt hmk hir hv hQ
  simp only [tmpsIn] at hti
  simp only [X6] at hc
  split at hc
  ·rename_i cx hx
   cases hc
   have hv:bnd (trC cx cf fuel ir env m k) (fun o=>X5.rec (some [o]) (fun id'=>bi (Nat.beq id id') (rT .normal o.env o.m o.marks) (some [o])) (some [o]) o.x)=some outs:=hv
   obtain⟨os,hos,hk⟩:=Z4 hv
   refine wpIn_block (ihx cx hx hti _ ir env m k ι w a os hm hen hnt hmk hir hos ?_)
   intro o ho ι' w' a' hst hen' hsz hmk' hpv
   obtain⟨os',hos',hsub⟩:=hk o ho
   obtain⟨x₀,env₀,m₀,k₀,pv₀⟩:=o
   rcases kM hos' with⟨h1,h2⟩ | ⟨id',h1,h2⟩ | ⟨h1,h2⟩
   ·obtain rfl:x₀=.normal:=h1
    obtain rfl:pv₀=none:=gZ hpv (by intro e;cases e)
    cases h2
    exact hQ _ (hsub _ (List.mem_singleton.2 rfl)) ι' w' a' hst hen' hsz hmk' (Z9 rfl)
   ·obtain rfl:x₀=.exit id':=h1
    obtain rfl:pv₀=none:=gZ hpv (by intro e;cases e)
    show Exit.inBlock id Q (.exit id') a' w'
    simp only [Exit.inBlock]
    rw [oG] at h2
    split at h2
    ·rename_i he
     subst he
     cases h2
     rw [if_pos rfl]
     exact hQ _ (hsub _ (List.mem_singleton.2 rfl)) ι' w' a' hst hen' hsz hmk' (Z9 rfl)
    ·rename_i he
     cases h2
     rw [if_neg (fun e=>he e.symm)]
     exact hQ _ (hsub _ (List.mem_singleton.2 rfl)) ι' w' a' hst hen' hsz hmk' (Z9 rfl)
   ·obtain rfl:x₀=.ret:=h1
    cases h2
    have:=hQ _ (hsub _ (List.mem_singleton.2 rfl)) ι' w' a' hst hen' hsz hmk' hpv
    cases pv₀<;>exact this
  ·cases hc
 | loop x ihx=>
  intro ac hc hti Q ir env m k ι w a outs hm hen hnt hmk hir hv hQ
  simp only [tmpsIn] at hti
  simp only [X6] at hc
  split at hc
  ·rename_i cx hx
   cases hc
   have hv:V9 (fun env m k=>trC cx cf fuel ir env m k) fuel env m k=some outs:=hv
   have key:∀(j:Nat) (env:T o8) (m:Mem) (k:List Mk) (ι:Inj) (w:World) (a:Act) (outs:List Out),RM P G ι m w.heap→aL ι (m.nm ι) slots env a.tmps→nt≤a.tmps.size→dz ι m k a.defers→Ud ι m ir r→
     V9 (fun env m k=>trC cx cf fuel ir env m k) j env m k=some outs→
     (∀o∈outs,∀ι' w' a',Step P G ι m w ι' o.m w'→aL ι' (o.m.nm ι') slots o.env a'.tmps→a'.tmps.size=a.tmps.size→dz ι' o.m o.marks a'.defers→Uc ι' o→Q (JD ι' o) a' w')→
     Code.roundsIn (FR r) 0 P x Q j a w:=by
    intro j
    induction j with
    | zero=>intro env m k ι w a outs _ _ _ _ _ hv;cases hv
    | succ j ih=>
     intro env m k ι w a outs hm hen hnt hmk hir hv hQ
     have hv:bnd (trC cx cf fuel ir env m k) (fun o=>X5.rec (V9 (fun env m k=>trC cx cf fuel ir env m k) j o.env o.m o.marks) (fun _=>some [o]) (some [o]) o.x)=some outs:=hv
     obtain⟨os,hos,hk⟩:=Z4 hv
     rw [roundsIn_succ]
     refine ihx cx hx hti _ ir env m k ι w a os hm hen hnt hmk hir hos ?_
     intro o ho ι' w' a' hst hen' hsz hmk' hpv
     obtain⟨os',hos',hsub⟩:=hk o ho
     obtain⟨x₀,env₀,m₀,k₀,pv₀⟩:=o
     rcases kM hos' with⟨h1,h2⟩ | ⟨id',h1,h2⟩ | ⟨h1,h2⟩
     ·obtain rfl:x₀=.normal:=h1
      obtain rfl:pv₀=none:=gZ hpv (by intro e;cases e)
      refine ih env₀ m₀ k₀ ι' w' a' os' hst.rm hen' (by rw [hsz];exact hnt) hmk' (hir.step hst) h2 ?_
      intro o2 ho2 ι'' w'' a'' hst' hen'' hsz' hmk'' hpv'
      exact hQ o2 (hsub _ ho2) ι'' w'' a'' (hst.trans hst') hen'' (hsz'.trans hsz) hmk'' hpv'
     ·obtain rfl:x₀=.exit id':=h1
      obtain rfl:pv₀=none:=gZ hpv (by intro e;cases e)
      cases h2
      exact hQ _ (hsub _ (List.mem_singleton.2 rfl)) ι' w' a' hst hen' hsz hmk' (Z9 rfl)
     ·obtain rfl:x₀=.ret:=h1
      cases h2
      have:=hQ _ (hsub _ (List.mem_singleton.2 rfl)) ι' w' a' hst hen' hsz hmk' hpv
      cases pv₀<;>exact this
   exact wpIn_loop_rounds fuel (key fuel env m k ι w a outs hm hen hnt hmk hir hv hQ)
  ·cases hc
 | rangeFunc g ps x y ihx ihy=>
  intro ac hc hti Q ir env m k ι w a outs hm hen hnt hmk hir hv hQ
  simp only [tmpsIn,Bool.and_eq_true] at hti
  simp only [X6] at hc
  split at hc
  ·rename_i z cx cy hz hx hy
   cases hc
   cases ir with
   | none=>
    obtain rfl:r=none:=hir.1
    have hv:MP cf (trO z [] env) (ps.toList.map fun t=>idxOf t slots 0) cx cy env (m.new .deferred) (.c m.next::k)=some outs:=hv
    have hlaid:=Laid.new hm.ok hm.limn .deferred rfl
    have hst1:Step P G ι m w (ι.upd m.next ⟨w.heap.size,0,0,none⟩) (m.new .deferred) (w.alloc (.deferred (some []))):=
     Step.lay (w':=w.alloc (.deferred (some []))) (l:=⟨w.heap.size,0,0,none⟩) hm hlaid (o:=.deferred (some [])) ⟨rfl,rfl,rfl,rfl⟩ rfl rfl (by show (w.heap.push _)[w.heap.size]?=_;exact dn) (by intro _ _ _ h;cases h)
    have hsz1:(w.alloc (.deferred (some []))).heap.size=w.heap.size+1:=by show (w.heap.push _).size=_;simp
    refine BN hcf hz hx hy hti.1 hti.2 (mark:=[{target:=.collected w.heap.size,args:=#[]}]) (D:=w.heap.size) hm hst1 hen hnt (fun fn=>?_) ⟨?_,?_⟩ hv hQ
    ·rw [run_enterLoop_outer,hsz1]
    ·rw [(hmk.step hst1).1]
     simp [pJ]
    ·intro x hx
     rcases List.mem_cons.1 hx with rfl | hx
     ·exact⟨hlaid.self,hm.limn⟩
     ·exact (hmk.step hst1).2 x hx
   | some l=>
    obtain rfl:r=some (ι l).b:=hir.1
    have hv:lZ (m.get l) (fun _ _ _ _ _ _=>MP cf (trO z [] env) (ps.toList.map fun t=>idxOf t slots 0) cx cy env m k)=some outs:=hv
    obtain⟨st,pend,env',params',as',bd',hget,hv⟩:=mV hv
    obtain⟨L,hL,_⟩:=hm.blk l _ hget
    refine BN hcf hz hx hy hti.1 hti.2 (mark:=[]) (D:=L.defers) hm (Step.refl hm) hen hnt (fun fn=>?_) (by simpa using hmk) hv hQ
    exact run_enterLoop_inner hL fn a.tmps ps x y
  ·cases hc
 | scope x ihx=>intro ac hc;simp only [X6] at hc;cases hc
 | label l=>intro ac hc;simp only [X6] at hc;cases hc
 | goto l=>intro ac hc;simp only [X6] at hc;cases hc
 | refuse s=>intro ac hc;simp only [X6] at hc;cases hc
end
end Go.AM
namespace Go.AM
open Go
section
variable {P:Program}{G:Mem}{ι:Inj}{n:Nm}{m:Mem}{w:World}{slots:List Nat}
theorem vE (vs:List o8)(env:T o8):aF [] vs env=match vs with | []=>some env | _ :: _=>none:=by cases vs<;>rfl
theorem sw (j:Option Nat)(js:List (Option Nat))(vs:List o8)(env:T o8):
  aF (j::js) vs env=match vs with | []=>none | v::vs=>aF js vs (trD j v env):=by cases vs<;>rfl
theorem jT:∀(ps:List Nat) (vs:List o8) (env env1:T o8) (tmps:Array Value),aL ι n slots env tmps→ltL n vs→aF (ps.map fun t=>idxOf t slots 0) vs env=some env1→
  vs.length=ps.length∧aL ι n slots env1 ((ps.zip (I7 ι vs)).foldl (fun t (p,v)=>t.setIfInBounds p v) tmps)∧((ps.zip (I7 ι vs)).foldl (fun t (p,v)=>t.setIfInBounds p v) tmps).size=tmps.size:=by
 intro ps
 induction ps with
 | nil=>
  intro vs env env1 tmps h hv hs
  rw [List.map_nil,vE] at hs
  cases vs with
  | nil=>cases hs;exact⟨rfl,h,rfl⟩
  | cons v vs=>cases hs
 | cons p ps ih=>
  intro vs env env1 tmps h hv hs
  rw [List.map_cons,sw] at hs
  cases vs with
  | nil=>cases hs
  | cons v vs=>
   have h1:=h.put (some p) hv.1
   obtain⟨g1,g2,g3⟩:=ih vs _ env1 _ h1 hv.2 hs
   exact⟨by simp [g1],g2,by rw [show ((p::ps).zip (I7 ι (v::vs))).foldl (fun t (p,v)=>t.setIfInBounds p v) tmps=(ps.zip (I7 ι vs)).foldl (fun t (p,v)=>t.setIfInBounds p v) (tmps.setIfInBounds p (I4 ι v)) from rfl,g3];simp⟩
theorem Fw (ps:Array Nat)(vs:List Value)(tmps:Array Value):
  (ps.zip vs.toArray).foldl (fun t (p,v)=>t.setIfInBounds p v) tmps=(ps.toList.zip vs).foldl (fun t (p,v)=>t.setIfInBounds p v) tmps:=by
 rw [← Array.foldl_toList,Array.toList_zip]
theorem Dc {ι':Inj}{n':Nm}{L:Loop}{st st':LoopState}{pend pend':Option X5}{env:T o8}{params:List (Option Nat)}{as bd:aV}(h:qo P ι n L st pend env params as bd)(hi:∀i,n i→ι' i=ι i)(hn:n.le n'):
  qo P ι' n' {L with state:=st',pending:=pend'.map exitCode} st' pend' env params as bd:=by
 obtain⟨_,_,h3⟩:=h.mono hi hn
 exact⟨rfl,rfl,h3⟩
theorem step_loop {ι:Inj}{m:Mem}{w:World}(hm:RM P G ι m w.heap){l:Nat}(hl:m.lim≤l){st:LoopState}{pend:Option X5}{env:T o8}{params:List (Option Nat)}{as bd:aV}
  (hg:m.get l=some (.loop st pend env params as bd)) {L:Loop} (hL:w.heap[(ι l).b]?=some (.loop L)) (hok:qo P ι (m.nm ι) L st pend env params as bd) (st':LoopState) (pend':Option X5):
  Step P G ι m w ι (m.set l (.loop st' pend' env params as bd)) (w.putObj (ι l).b (.loop {L with state:=st',pending:=pend'.map exitCode})):=by
 refine Step.set hm hl hg rfl rfl (o:=.loop {L with state:=st',pending:=pend'.map exitCode}) ⟨rfl,rfl,rfl,rfl⟩ ?_ (by intro _ _ _ h;cases h)
 exact⟨_,gY hL,Dc hok (fun _ _=>rfl) (Mem.aA (fun i hi=>Mem.jM hm.ok hg rfl i hi) fun _ _=>rfl)⟩
theorem Av {cf:L8}(hcf:tK P G cf)(fuel:Nat)(hdraw:∀slots nt r,fV P G slots nt cf r){l:Nat}{args:List o8}{outs:List VM}(h:zR cf fuel l args m=some outs)(hm:RM P G ι m w.heap)(hargs:ltL (m.nm ι) args):
  ∃L:Loop,w.heap[(ι l).b]?=some (.loop L)∧args.length=L.params.size∧
   RoundIn Fence.wide 0 P (ι l).b L.fn ((L.params.zip (I7 ι args).toArray).foldl (fun t (p,v)=>t.setIfInBounds p v) L.tmps) L.assign L.body w (Z0 P G ι m w outs):=by
 obtain⟨hlim,h⟩:=ql h
 have hlim:=jN hlim
 obtain⟨st,pend,env,params,as,bd,hget,h⟩:=mV h
 have hst:st=.ready∧pend=none∧ob (aF params args env) (fun env1=>bnd (trC as cf fuel (some l) env1 m []) fun o=>match o.x,o.marks with
   | .normal,[]=>lZ (o.m.get l) fun st2 pend2 env2 params2 assign2 body2=>match st2,pend2 with
    | .ready,none=>bnd (trC bd cf fuel (some l) o.env (o.m.set l (.loop .busy none env2 params2 assign2 body2)) []) (roundEnd l)
    | _,_=>none
   | _,_=>none)=some outs:=by
  cases st<;>cases pend<;>first | exact⟨rfl,rfl,h⟩ | cases h
 obtain⟨rfl,rfl,h⟩:=hst
 obtain⟨env1,hp,h⟩:=J7 h
 obtain⟨os,hos,hk⟩:=Z4 h
 obtain⟨L,hL,hLs,hLp,slots,hLe,hLps,hLa,hLb,nt,hnt,hta,htb⟩:=hm.blk l _ hget
 rw [hLps] at hp
 obtain⟨g1,g2,g3⟩:=jT L.params.toList args env env1 L.tmps hLe hargs hp
 refine⟨L,hL,by rw [g1];simp,?_⟩
 rw [Fw]
 have hhas:m.has l:=⟨_,hget,rfl⟩
 have hir:Ud ι m (some l) (some (ι l).b):=⟨rfl,fun l' hl'=>by cases hl';exact hhas⟩
 refine roundIn_of_wpIn (F:=Fence.wide) trivial ?_
 refine kN hcf fuel (hdraw slots nt (some (ι l).b)) L.assign as hLa hta _ (some l) env1 m [] ι w {tmps:=(L.params.toList.zip (I7 ι args)).foldl (fun t (p,v)=>t.setIfInBounds p v) L.tmps,defers:=[]} os hm g2 (by rw [g3];exact hnt)
  ⟨rfl,fun _ h=>by cases h⟩ hir hos ?_
 intro o ho ι1 w1 a1 hst1 hen1 hsz1 hmk1 hpv1
 obtain⟨os',hos',hsub⟩:=hk o ho
 obtain⟨x₀,env₀,m₀,k₀,pv₀⟩:=o
 have hx:x₀=.normal∧k₀=[]∧lZ (m₀.get l) (fun st2 pend2 env2 params2 assign2 body2=>match st2,pend2 with
    | .ready,none=>bnd (trC bd cf fuel (some l) env₀ (m₀.set l (.loop .busy none env2 params2 assign2 body2)) []) (roundEnd l)
    | _,_=>none)=some os':=by
  cases x₀<;>cases k₀<;>first | exact⟨rfl,rfl,hos'⟩ | cases hos'
 obtain⟨rfl,rfl,hos'⟩:=hx
 obtain rfl:pv₀=none:=gZ hpv1 (by intro e;cases e)
 obtain⟨st2,pend2,env2,params2,as2,bd2,hget2,hos'⟩:=mV hos'
 have hst2:st2=.ready∧pend2=none∧bnd (trC bd cf fuel (some l) env₀ (m₀.set l (.loop .busy none env2 params2 as2 bd2)) []) (roundEnd l)=some os':=by
  cases st2<;>cases pend2<;>first | exact⟨rfl,rfl,hos'⟩ | cases hos'
 obtain⟨rfl,rfl,hos'⟩:=hst2
 obtain⟨os2,hos2,hk2⟩:=Z4 hos'
 obtain⟨L2,hL2,hok2⟩:=hst1.rm.blk l _ hget2
 have hlim0:m₀.lim≤l:=by rw [hst1.lim];exact hlim
 have hι1:(ι1 l).b=(ι l).b:=by rw [hst1.ext l hhas]
 have hbeg:=run_beginRound (P:=P) hL2 hok2.state
 have hst2:=step_loop hst1.rm hlim0 hget2 hL2 hok2 .busy none
 rw [hι1] at hbeg
 rw [hι1,show ({L2 with state:=.busy,pending:=(none:Option X5).map exitCode}:Loop)={L2 with state:=.busy} from by rw [← hok2.pending]] at hst2
 refine⟨_,hbeg,?_⟩
 have hst12:=hst1.trans hst2
 refine kN hcf fuel (hdraw slots nt (some (ι l).b)) L.body bd hLb htb _ (some l) env₀ _ [] ι1 _ a1 os2 hst2.rm (hst2.env hen1) (by rw [hsz1];show nt≤Array.size _;rw [g3];exact hnt)
  (hmk1.step hst2) (hir.step hst12) hos2 ?_
 intro o3 ho3 ι3 w3 a3 hst3 hen3 hsz3 hmk3 hpv3
 obtain⟨os3,hos3,hsub3⟩:=hk2 o3 ho3
 obtain⟨x3,env3,m3,k3,pv3⟩:=o3
 have hall:=hst12.trans hst3
 have hk3:k3=[]∧pv3=none∧lZ (m3.get l) (fun st pend env params assign body=>match st,pend with
  | .busy,none=>match x3 with
   | .normal=>one (.bool true) (m3.set l (.loop .ready none env params assign body))
   | x=>one (.bool false) (m3.set l (.loop .done (some x) env params assign body))
  | _,_=>none)=some os3:=by
  cases k3 with
  | nil=>
   cases pv3 with
   | none=>exact⟨rfl,rfl,hos3⟩
   | some=>cases hos3
  | cons=>cases pv3<;>cases hos3
 obtain⟨rfl,rfl,hos3⟩:=hk3
 obtain⟨st4,pend4,env4,params4,as4,bd4,hget4,hos3⟩:=mV hos3
 obtain⟨L4,hL4,hok4⟩:=hst3.rm.blk l _ hget4
 have hlim3:m3.lim≤l:=by rw [hall.lim];exact hlim
 have hι3:(ι3 l).b=(ι l).b:=by rw [hall.ext l hhas]
 have fin:∀(b:Bool) (pend':Option X5),os3=[⟨.bool b,m3.set l (.loop (if b then .ready else .done) pend' env4 params4 as4 bd4)⟩]→(pend'.map exitCode).isNone=b→
   ∃v w',(Instr.endRound (ι l).b (pend'.map exitCode)).run P w3=.ok v w'∧Z0 P G ι m w outs (.returned v) w':=by
  intro b pend' h1 h2
  have hend:=run_endRound (P:=P) (pend'.map exitCode) hL4
  have hst4:=step_loop hst3.rm hlim3 hget4 hL4 hok4 (if b then .ready else .done) pend'
  rw [hι3] at hend hst4
  rw [h2] at hend
  refine⟨_,_,hend,.inl ⟨_,rfl,⟨.bool b,m3.set l (.loop (if b then .ready else .done) pend' env4 params4 as4 bd4)⟩,hsub _ ?_,ι3,hall.trans hst4,trivial,by simp [I4]⟩⟩
  exact hsub3 _ (by rw [h1];exact List.mem_singleton.2 rfl)
 have fin':∀(b:Bool) (pend':Option X5),(st4=.busy∧pend4=none∧one (.bool b) (m3.set l (.loop (if b then .ready else .done) pend' env4 params4 as4 bd4))=some os3)→(pend'.map exitCode).isNone=b→
   ∃v w',(Instr.endRound (ι l).b (pend'.map exitCode)).run P w3=.ok v w'∧Z0 P G ι m w outs (.returned v) w':=by
  rintro b pend' ⟨_,_,h⟩ h2
  exact fin b pend' (by cases h;rfl) h2
 cases x3 with
 | normal=>exact fin' true none (by cases st4<;>cases pend4<;>first | exact⟨rfl,rfl,hos3⟩ | cases hos3) rfl
 | exit id=>exact fin' false (some (.exit id)) (by cases st4<;>cases pend4<;>first | exact⟨rfl,rfl,hos3⟩ | cases hos3) rfl
 | ret=>exact fin' false (some .ret) (by cases st4<;>cases pend4<;>first | exact⟨rfl,rfl,hos3⟩ | cases hos3) rfl
theorem Fx {r:ResultVar}{l:List ResultVar}{rs:List uI}(h:EI P slots (r::l)=some rs):
  ∃x rs',rs=x::rs'∧EI P slots l=some rs'∧((∃t j,r=.tmp t∧idxOf t slots 0=some j∧x=.tmp j)∨∃t ty j s,r=.cell t ty∧idxOf t slots 0=some j∧partT P ty=some s∧x=.cell j s):=by
 cases r with
 | tmp t=>
  simp only [EI] at h
  split at h
  ·cases h;exact⟨_,_,rfl,by assumption,.inl ⟨t,_,rfl,by assumption,rfl⟩⟩
  ·cases h
 | cell t ty=>
  simp only [EI] at h
  split at h
  ·cases h;exact⟨_,_,rfl,by assumption,.inr ⟨t,ty,_,_,rfl,by assumption,by assumption,rfl⟩⟩
  ·cases h
theorem xI (r:uI)(rs:List uI)(env:T o8)(m:Mem):results (r::rs) env m=ob (match r with
  | .tmp j=>T.get env j
  | .cell j size=>ob (T.get env j) fun p=>nD p fun id off=>X0 (m.get id) fun rs n rows=>match size with
   | none=>cell1 rs n rows off
   | some k=>ob (jr rs n rows off k) fun l=>some (.agg l)) fun v=>ob (results rs env m) fun l=>some (v::l):=rfl
def adV (tmps:Array Value):ResultVar→Sem Value
 | .tmp t=>pure (tmps.getD t undef)
 | .cell a t=>do loadVar t (← asAddr (tmps.getD a undef))
theorem tQ (fn:Func)(tmps:Array Value):Go.results fn tmps=(do
  let vs ← fn.results.mapM (adV tmps)
  pure (if h:vs.size=1 then vs[0] else .tuple vs)):=by
 unfold Go.results
 congr 1
theorem Df (ad:Addr):asAddr (.pointer (some ad))=pure ad:=rfl
theorem mW (hm:RM P G ι m w.heap){env:T o8}{tmps:Array Value}(hen:aL ι (m.nm ι) slots env tmps):∀(l:List ResultVar) (rs:List uI),EI P slots l=some rs→∀vs,results rs env m=some vs→
  ltL (m.nm ι) vs∧(l.mapM (adV tmps):Sem (List Value)).run P w=.ok (I7 ι vs) w:=by
 intro l
 induction l with
 | nil=>
  intro rs hc vs hv
  simp only [EI,Option.some.injEq] at hc;subst hc
  have hv:some []=some vs:=hv
  cases hv
  exact⟨trivial,by simp [I7]⟩
 | cons r l ih=>
  intro rs hc vs hv
  obtain⟨x,rs',rfl,hc',hx⟩:=Fx hc
  rw [xI] at hv
  obtain⟨v,h1,hv⟩:=J7 hv
  obtain⟨vs',h2,hv⟩:=J7 hv
  cases hv
  obtain⟨g1,g2⟩:=ih rs' hc' vs' h2
  rcases hx with⟨t,j,rfl,hj,rfl⟩ | ⟨t,ty,j,s,rfl,hj,hs,rfl⟩
  ·obtain⟨_,u,e1,e2,e3⟩:=hen.val t j hj
   have h1:env.get j=some v:=h1
   rw [h1] at e1;cases e1
   refine⟨⟨e2,g1⟩,?_⟩
   simp only [List.mapM_cons,adV,Sem.run_bind,Sem.run_pure,Result.andThen_ok,g2,e3,I7]
  ·obtain⟨p,h1,h3⟩:=J7 h1
   obtain⟨id,off,rfl,h3⟩:=eO h3
   obtain⟨_,u,e1,e2,e3⟩:=hen.val t j hj
   rw [h1] at e1;cases e1
   obtain⟨q1,q2⟩:=mH hs hm h3
   refine⟨⟨q2,g1⟩,?_⟩
   have e4:tmps.getD t undef=.pointer (some (ι.at id off)):=by rw [e3];simp [I4]
   simp only [List.mapM_cons,adV,Sem.run_bind,Sem.run_pure,Result.andThen_ok,g2,e4,I7,Df,q1]
theorem xJ (l:List o8):I4 ι (result l)=(if h:(I7 ι l).toArray.size=1 then (I7 ι l).toArray[0] else .tuple (I7 ι l).toArray):=by
 match l with
 | []=>simp [result,I4,I7]
 | [v]=>simp [result,I7]
 | v::u::l=>simp [result,I4,I7]
theorem Fy {l:List o8}(h:ltL n l):(result l).lt n:=by
 match l with
 | []=>exact trivial
 | [v]=>exact h.1
 | v::u::l=>exact h
theorem Nf {β:Type}{b:Option Blk}{k:Option β}{r:β}(h:UL b k=some r):b=some .deferred∧k=some r:=by
 unfold UL at h
 split at h
 ·exact⟨rfl,h⟩
 ·cases h
def Aw (ι:Inj):Option o8→FrameMode
 | none=>.returning
 | some x=>.panicking [{v:=I4 ι x,recovered:=false}]
theorem JE {ι:Inj}{md:Option o8}:Aw ι md≠.run:=by cases md<;>simp [Aw]
def Dg (ι:Inj)(m:Mem)(md:Option o8):Prop:=∀x,md=some x→x.lt (m.nm ι)
theorem Dg.step {ι ι':Inj}{m m':Mem}{w w':World}{md:Option o8}(h:Dg ι m md)(hst:Step P G ι m w ι' m' w'):Dg ι' m' md∧Aw ι' md=Aw ι md:=by
 refine⟨fun x hx=>o8.Q9 (Mem.aA hst.has hst.ext) _ (h x hx),?_⟩
 cases md with
 | none=>rfl
 | some x=>simp only [Aw,hst.I4 (h x rfl)]
def adW (P:Program)(G:Mem)(dcf:jg):Prop:=∀{f:FuncId} {args:List o8} {md:Option o8} {m:Mem} {outs:List (Mem×Option o8)},dcf f args md m=some outs→
 adU P f∧∀{ι:Inj} {w:World},RM P G ι m w.heap→ltL (m.nm ι) args→Dg ι m md→
  CallsDIn Fence.wide 0 P f (I7 ι args).toArray (Aw ι md) w fun e u' w'=>∃v,e=.returned v∧∃r∈outs,∃ι',Step P G ι m w ι' r.1 w'∧Dg ι' r.1 r.2∧settle u'=Aw ι' r.2
theorem qN {dcf:jg}(hdc:adW P G dcf){fn:Func}{rs:List uI}(hrs:EI P slots fn.results.toList=some rs){ι0:Inj}{m0:Mem}{w0:World}{outs:List VM}:
  ∀(k:List Mk) (m:Mem) (ι:Inj) (w:World) (env:T o8) (tmps:Array Value) (ds:List Deferred) (md:Option o8) (vs:List VM),
  Step P G ι0 m0 w0 ι m w→aL ι (m.nm ι) slots env tmps→dz ι m k ds→Dg ι m md→wI dcf (sP rs env) k md m=some vs→(∀v∈vs,v∈outs)→
  LeavesInM Fence.wide 0 P fn tmps (Z0 P G ι0 m0 w0 outs) ds (Aw ι md) w:=by
 intro k
 induction k with
 | nil=>
  intro m ι w env tmps ds md vs hst hen hmk hmd hv hsub
  rw [hmk.1]
  have hv:sP rs env md m=some vs:=hv
  show LeavesIn Fence.wide 0 P fn tmps _ [] (Aw ι md) w
  cases md with
  | none=>
   have hv:ob (results rs env m) (fun l=>one (result l) m)=some vs:=hv
   obtain⟨l,h2,hv⟩:=J7 hv
   cases hv
   obtain⟨g1,g2⟩:=mW hst.rm hen _ rs hrs l h2
   refine⟨I4 ι (result l),?_,.inl ⟨_,rfl,⟨result l,m⟩,hsub _ (List.mem_singleton.2 rfl),ι,hst,Fy g1,rfl⟩⟩
   rw [xJ,tQ,Array.mapM_eq_mapM_toList]
   simp only [Sem.run_bind,map_eq_pure_bind,bind_assoc,pure_bind]
   rw [g2]
   simp
  | some x=>
   have hv:some [(⟨.pan x,m⟩:VM)]=some vs:=hv
   cases hv
   exact .inr ⟨_,hsub _ (List.mem_singleton.2 rfl),x,ι,rfl,hst,hmd x rfl,rfl⟩
 | cons y k ih=>
  intro m ι w env tmps ds md vs hst hen hmk hmd hv hsub
  have htail:dz ι m k (k.map (pJ ι)):=⟨rfl,fun i hi=>hmk.2 i (List.mem_cons_of_mem _ hi)⟩
  have hy:=hmk.2 y (by simp)
  rw [hmk.1]
  refine⟨JE,?_⟩
  cases y with
  | c id=>
   have hv:UL (m.get id) (wI dcf (sP rs env) k md (m.set id .dead))=some vs:=hv
   obtain⟨hget,hv⟩:=Nf hv
   have hb:w.heap[(ι id).b]?=some (.deferred (some [])):=hst.rm.blk id _ hget
   have hst2:Step P G ι m w ι (m.set id .dead) (w.putObj (ι id).b (.deferred none)):=
    Step.set hst.rm hy.2 hget rfl rfl (o:=.deferred none) ⟨rfl,rfl,rfl,rfl⟩ trivial (by intro _ _ _ h;cases h)
   refine .inl ⟨(ι id).b,_,rfl,run_takeDeferred hb,?_⟩
   exact ih (m.set id .dead) ι _ env tmps _ md vs (hst.trans hst2) (hst2.env hen) (htail.step hst2) (hmd.step hst2).1 hv hsub
  | d v args=>
   obtain⟨⟨fn',a,b,rfl⟩,hlt,hargs⟩:=hy
   have hv:bnd (KM dcf (.func fn' a b) args md m) (fun r=>wI dcf (sP rs env) k r.2 r.1)=some vs:=hv
   obtain⟨os,hos,hk⟩:=Z4 hv
   cases fn' with
   | func f=>
    have hos:dcf f (gJ a (gJ args b)) md m=some os:=hos
    rw [U9,U9] at hos
    obtain⟨hf,hcall⟩:=hdc hos
    obtain⟨_,ha,hb⟩:=hlt
    refine .inr ⟨(fun h=>by cases h),.func f,(I7 ι b).toArray,f,(I7 ι (a++(args++b))).toArray,rfl,?_,(fun _ _=>trivial),?_⟩
    ·show (invoke (.fn (.func f) (I7 ι b).toArray) ((I7 ι a).toArray++(I7 ι args).toArray)).run P w=_
     simp [invoke,gQ hf,eF]
    ·refine CallsDIn.mono (hcall hst.rm (dQ ha (dQ hargs hb)) hmd) ?_
     rintro e u' w' ⟨v,rfl,r,hr,ι',hst',hmd',hset⟩
     obtain⟨os',hos',hsub'⟩:=hk r hr
     show LeavesInM Fence.wide 0 P fn tmps _ (k.map (pJ ι)) (settle u') w'
     rw [hset]
     exact ih r.1 ι' w' env tmps _ r.2 os' (hst.trans hst') (hst'.env hen) (htail.step hst') hmd' hos' (fun v hv=>hsub v (hsub' v hv))
   | _=>cases hos
structure J6 (P:Program)(f:FuncId)(sf:SFn):Prop where
 ok:adU P f
 is:∃(slots:List Nat) (fn:Func) (c:Code) (ac:aV) (rs:List uI),P.funcs[f]?=some fn∧fn.body=some c∧X6 P slots c=some ac∧EI P slots fn.results.toList=some rs∧
  tmpsIn fn.ntmps c=true∧(∀t∈slots,t<fn.ntmps)∧slots.length<2^60∧
  sf.args=(List.range (fn.params.size+fn.nfree)).map (fun t=>idxOf t slots 0)∧sf.nslots=slots.length∧sf.results=rs∧sf.code=trC ac∧∀c',sf.rcode=some c'→c'=ac
theorem JF:∀(l:List Value) (k:Nat) (A:Array Value) (i:Nat),(((List.range' k l.length).zip l).foldl (fun t (p,v)=>t.setIfInBounds p v) A).size=A.size∧
  (((List.range' k l.length).zip l).foldl (fun t (p,v)=>t.setIfInBounds p v) A)[i]?=if k≤i∧i<k+l.length∧i<A.size then l[i-k]? else A[i]?:=by
 intro l
 induction l with
 | nil=>intro k A i;simp;omega
 | cons v l ih=>
  intro k A i
  have e:((List.range' k (v::l).length).zip (v::l)).foldl (fun t (p,v)=>t.setIfInBounds p v) A=((List.range' (k+1) l.length).zip l).foldl (fun t (p,v)=>t.setIfInBounds p v) (A.setIfInBounds k v):=by
   simp [List.range'_succ]
  obtain⟨h1,h2⟩:=ih (k+1) (A.setIfInBounds k v) i
  rw [e]
  refine⟨by rw [h1];simp,?_⟩
  rw [h2]
  simp only [Array.size_setIfInBounds,List.length_cons]
  by_cases hk:i=k
  ·subst hk
   rw [if_neg (by omega)]
   by_cases hs:i<A.size
   ·rw [if_pos (by omega),Array.getElem?_setIfInBounds_self_of_lt hs];simp
   ·rw [if_neg (by omega),Array.setIfInBounds_eq_of_size_le (Nat.le_of_not_lt hs)]
  ·rw [Array.getElem?_setIfInBounds_ne (fun e=>hk e.symm)]
   by_cases hc:k+1≤i∧i<k+1+l.length∧i<A.size
   ·rw [if_pos hc,if_pos (by omega),show i-k=(i-(k+1))+1 from by omega];simp
   ·rw [if_neg hc,if_neg (by omega)]
theorem Dh (vs:List Value)(nt:Nat):((List.range vs.length).zip vs).foldl (fun t (p,v)=>t.setIfInBounds p v) (Array.replicate (max vs.length nt) undef)=vs.toArray++Array.replicate (nt-vs.toArray.size) undef:=by
 apply Array.ext_getElem?
 intro i
 rw [List.range_eq_range',(JF vs 0 _ i).2]
 simp only [Array.size_replicate,Nat.zero_le,true_and,Nat.zero_add,Nat.sub_zero]
 by_cases h:i<vs.length
 ·rw [if_pos (by omega),Array.getElem?_append_left (by simpa using h)];simp
 ·rw [if_neg (by omega),Array.getElem?_append_right (by simpa using h)]
  simp only [Array.getElem?_replicate,List.size_toArray]
  by_cases h2:i<max vs.length nt
  ·rw [if_pos h2,if_pos (by omega)]
  ·rw [if_neg h2,if_neg (by omega)]
theorem xK {fn:Func}(h6:∀t∈slots,t<fn.ntmps)(h7:slots.length<2^60){args:List o8}{env:T o8}(hargs:ltL (m.nm ι) args)
  (hp:aF ((List.range (fn.params.size+fn.nfree)).map fun t=>idxOf t slots 0) args (T.rep .undef slots.length .e 0)=some env):
  args.length=fn.params.size+fn.nfree∧aL ι (m.nm ι) slots env ((I7 ι args).toArray++Array.replicate (fn.ntmps-(I7 ι args).toArray.size) undef)∧
   fn.ntmps≤((I7 ι args).toArray++Array.replicate (fn.ntmps-(I7 ι args).toArray.size) undef).size:=by
 have henv0:aL ι (m.nm ι) slots (T.rep .undef slots.length .e 0) (Array.replicate (max (I7 ι args).length fn.ntmps) undef):=by
  refine⟨by have:=T.KR o8.undef slots.length .e 0 .e;simpa using this,h7,fun t j hj=>?_⟩
  have hlt:=mo hj
  have hmem:t∈slots:=by have:=hlt.2.2;exact List.mem_of_getElem? this
  have:=h6 t hmem
  refine⟨by simp;omega,.undef,?_,trivial,?_⟩
  ·rw [T.EJ _ _ _ _ .e,if_neg (by omega),if_pos hlt.2.1]
  ·rw [Array.getD_eq_getD_getElem?,Array.getElem?_replicate]
   rw [fH]
   split<;>rfl
 obtain⟨g1,g2,g3⟩:=jT (List.range (fn.params.size+fn.nfree)) args _ env _ henv0 hargs hp
 rw [List.length_range] at g1
 have hst:=Dh (I7 ι args) fn.ntmps
 rw [U3,g1] at hst
 rw [U3,g1] at g2 g3
 rw [hst] at g2 g3
 refine⟨g1,g2,?_⟩
 rw [Array.size_append,Array.size_replicate];omega
theorem BO {cf:L8}(hcf:tK P G cf){dcf:jg}(hdc:adW P G dcf)(fuel:Nat)(hdraw:∀slots nt r,fV P G slots nt cf r){f:FuncId}{sf:SFn}(hf:J6 P f sf){args:List o8}{outs:List VM}(h:F3 cf dcf fuel sf args m=some outs)(hm:RM P G ι m w.heap)(hargs:ltL (m.nm ι) args):
  CallsIn Fence.wide 0 P f (I7 ι args).toArray w (Z0 P G ι m w outs):=by
 obtain⟨_,slots,fn,c,ac,rs,h1,h2,h3,h4,h5,h6,h7,e1,e2,e3,e4,_⟩:=hf
 obtain⟨env,hp,h⟩:=J7 h
 obtain⟨os,hos,hk⟩:=Z4 h
 rw [e1,e2] at hp
 obtain⟨g1,g2,g3⟩:=xK h6 h7 hargs hp
 refine callsIn_of_wp_marks h1 h2 trivial ?_
 rw [e4] at hos
 refine kN hcf fuel (hdraw slots fn.ntmps none) c ac h3 h5 _ none env m [] ι w {tmps:=(I7 ι args).toArray++Array.replicate (fn.ntmps-(I7 ι args).toArray.size) undef,defers:=[]} os hm g2 g3 ⟨rfl,fun _ h=>by cases h⟩ ⟨rfl,fun _ h=>by cases h⟩ hos ?_
 intro o ho ι' w' a' hst' hen' hsz' hmk' hpv'
 obtain⟨vs,hvs,hsub⟩:=hk o ho
 obtain⟨x₀,env₀,m₀,k₀,pv₀⟩:=o
 rw [e3] at hvs
 rcases kM hvs with⟨hx,hl⟩ | ⟨id,hx,hl⟩ | ⟨hx,hl⟩
 ·obtain rfl:x₀=.normal:=hx
  obtain rfl:pv₀=none:=gZ hpv' (by intro e;cases e)
  exact qN hdc h4 k₀ m₀ ι' w' env₀ a'.tmps a'.defers none vs hst' hen' hmk' (fun x hx=>by cases hx) hl hsub
 ·cases hl
 ·obtain rfl:x₀=.ret:=hx
  have:=qN hdc h4 k₀ m₀ ι' w' env₀ a'.tmps a'.defers pv₀ vs hst' hen' hmk' (fun x hx=>(hpv' x hx).2) hl hsub
  cases pv₀<;>exact this
end
end Go.AM
namespace Go.AM
open Go
inductive Dep (ops:Array Oper):Nat→Nat→Prop
 | edge {i:Nat} {o:Oper} {e:Edge}:ops[i]?=some o→e∈o.after→Region.binds .any e=true→Dep ops i e.on
 | more {i:Nat} {o:Oper} {e:Edge} {j:Nat}:ops[i]?=some o→e∈o.after→Region.binds .any e=true→Dep ops e.on j→Dep ops i j
theorem Fz (acc:List Nat)(j:Nat):∀(l:List Edge) (s:Nat),Nat.testBit (l.foldl (fun s x=>if Region.binds .any x then s ||| (1 <<< x.on) ||| (acc.getD x.on 0) else s) s) j=true→
  Nat.testBit s j=true∨∃e∈l,Region.binds .any e=true∧(j=e.on∨Nat.testBit (acc.getD e.on 0) j=true):=by
 intro l
 induction l with
 | nil=>intro s h;exact .inl h
 | cons e l ih=>
  intro s h
  rw [List.foldl_cons] at h
  rcases ih _ h with h | ⟨e',h1,h2⟩
  ·cases hb:Region.binds .any e with
   | false=>rw [hb] at h;exact .inl (by simpa using h)
   | true=>
    rw [hb] at h
    simp only [if_true,Nat.testBit_or,Bool.or_eq_true] at h
    rcases h with (h | h) | h
    ·exact .inl h
    ·refine .inr ⟨e,by simp,hb,.inl ?_⟩
     rw [Nat.one_shiftLeft,Nat.testBit_two_pow] at h
     exact (of_decide_eq_true h).symm
    ·exact .inr ⟨e,by simp,hb,.inr h⟩
  ·exact .inr ⟨e',List.mem_cons_of_mem _ h1,h2⟩
theorem iG (ops:Array Oper)(i j:Nat)(h:mOf (masks ops.toList) i j=true):Dep ops i j:=by
 have key:∀(l:List Oper) (acc:List Nat),(∀k,k<l.length→ops[acc.length+k]?=l[k]?)→(∀i j,Nat.testBit (acc.getD i 0) j=true→Dep ops i j)→
   ∀i j,Nat.testBit ((l.foldl (fun acc o=>acc ++ [bitsOf o.after acc]) acc).getD i 0) j=true→Dep ops i j:=by
  intro l
  induction l with
  | nil=>intro acc _ h;exact h
  | cons o l ih=>
   intro acc hops h
   rw [List.foldl_cons]
   refine ih _ (fun k hk=>?_) ?_
   ·have:=hops (k+1) (by simpa using hk)
    simpa [Nat.add_assoc,Nat.add_comm 1] using this
   ·intro i j hb
    by_cases hi:i<acc.length
    ·refine h i j ?_
     simpa [List.getD_eq_getElem?_getD,List.getElem?_append_left hi] using hb
    ·by_cases hi2:i=acc.length
     ·subst hi2
      have hb:Nat.testBit (bitsOf o.after acc) j=true:=by simpa [List.getD_eq_getElem?_getD] using hb
      have ho:ops[acc.length]?=some o:=by have:=hops 0 (by simp);simpa using this
      rcases Fz acc j o.after.toList 0 hb with h0 | ⟨e,h1,h2,h3⟩
      ·simp at h0
      ·rcases h3 with rfl | h3
       ·exact .edge ho (by simpa using h1) h2
       ·exact .more ho (by simpa using h1) h2 (h _ _ h3)
     ·have:(acc ++ [bitsOf o.after acc]).getD i 0=0:=by
       rw [List.getD_eq_getElem?_getD,List.getElem?_eq_none (by simp;omega)];rfl
      rw [this] at hb;simp at hb
 refine key ops.toList [] (fun k hk=>by simp) (fun i j hb=>by simp at hb) i j h
def Ay (ops:Array Oper)(listed:Array Bool):Prop:=∀i o,listed.getD i false=true→ops[i]?=some o→∀e∈o.after,Region.binds .any e=true→listed.getD e.on false=true
theorem Dep.listed {ops:Array Oper}{listed:Array Bool}(hc:Ay ops listed){i j:Nat}(h:Dep ops i j):
  (∀o,ops[i]?=some o→∀e∈o.after,Region.binds .any e=true→listed.getD e.on false=true)→listed.getD j false=true:=by
 induction h with
 | edge ho he hb=>intro hi;exact hi _ ho _ he hb
 | more ho he hb _ ih=>intro hi;exact ih fun o' ho'=>hc _ o' (hi _ ho _ he hb) ho'
theorem nR:∀{l:List Nat},EG l=true→l.Nodup
 | [],_=>List.nodup_nil
 | x::l,h=>by
  simp only [EG,Bool.and_eq_true,Bool.not_eq_true'] at h
  refine List.nodup_cons.2 ⟨fun hx=>?_,nR h.2⟩
  have:=h.1
  simp [hx] at this
theorem BP {ms:List Nat}{ops:Array Oper}:∀{l before:List (Nat×Inst)},mh ms ops l before=true→∀p y,l[p]?=some y→oz ms ops y.1 y.2 ((l.take p).reverse++before)=true
 | [],_,_,p,y,hp=>by simp at hp
 | z::l,before,h,p,y,hp=>by
  simp only [mh,Bool.and_eq_true] at h
  cases p with
  | zero=>simp at hp;subst hp;simpa using h.1
  | succ p=>
   have:=BP h.2 p y (by simpa using hp)
   simpa using this
structure DS where
 ls:List o8
 env:T o8
 m:Mem
 gs:List Mem
def DStep (cf:L8)(b:Nat)(x:Nat×Inst)(s s':DS):Prop:=
 ∃v,s'.ls=v::s.ls∧s'.env=trD x.2.dst v s.env∧match x.2.op with
  | .p o=>Ji x.2.guard (trP o) s.ls s.env=some v∧s'.m=s.m∧s'.gs=s.gs
  | .r o=>Eu x.2.guard (trR o) s.ls s.env (hd s.m s.gs)=some v∧stable (Eu x.2.guard (trR o)) s.ls s.env v x.1 (tl s.gs)=true∧s'.m=s.m∧s'.gs=s.gs
  | .a o=>∃r,ML x.2.guard (trL o) s.ls s.env (b+x.1)=some r∧v=r.1∧isVoid (s.m.get (b+x.1))=true∧jy (b+x.1) s.gs=true∧s'.m=UK s.m (b+x.1) r.2∧s'.gs=s.gs
  | .e o=>UJ x.2.guard (trE o) cf s.ls s.env s.m=some [⟨v,s'.m⟩]∧s'.gs=s'.m::s.gs∧¬ ∃x,v=.pan x
theorem Ng {α β:Type}{x:Option (List α)}{f:α→Option β}{r:β}(h:MN x f=some r):∃a,x=some [a]∧f a=some r:=by
 cases x with
 | none=>cases h
 | some l=>match l,h with
  | [a],h=>exact⟨a,rfl,h⟩
  | [],h=>cases h
  | _ :: _ :: _,h=>cases h
theorem FB {cf:L8}{b:Nat}{x:Nat×Inst}{k:DC}{s:DS}{outs:List EM}(h:aeN x.1 x.2.op x.2.dst x.2.guard k cf b s.ls s.env s.m s.gs=some outs):
  ∃s',DStep cf b x s s'∧k cf b s'.ls s'.env s'.m s'.gs=some outs:=by
 obtain⟨c,op,dst,guard⟩:=x
 unfold DStep
 cases op with
 | p o=>
  obtain⟨v,h1,h⟩:=J7 h
  exact⟨⟨v::s.ls,trD dst v s.env,s.m,s.gs⟩,⟨v,rfl,rfl,h1,rfl,rfl⟩,h⟩
 | r o=>
  obtain⟨v,h1,h⟩:=J7 h
  obtain⟨h2,h⟩:=K8 h
  exact⟨⟨v::s.ls,trD dst v s.env,s.m,s.gs⟩,⟨v,rfl,rfl,h1,h2,rfl,rfl⟩,h⟩
 | a o=>
  obtain⟨r,h1,h⟩:=J7 h
  obtain⟨h2,h⟩:=K8 h
  obtain⟨h3,h⟩:=K8 h
  exact⟨⟨r.1::s.ls,trD dst r.1 s.env,UK s.m (b+c) r.2,s.gs⟩,⟨r.1,rfl,rfl,r,h1,rfl,h2,h3,rfl,rfl⟩,h⟩
 | e o=>
  obtain⟨r,h1,h⟩:=Ng h
  obtain⟨v,m'⟩:=r
  have h:gW v (fun _=>none) (k cf b (v::s.ls) (trD dst v s.env) m' (m'::s.gs))=some outs:=h
  by_cases hx:∃x,v=.pan x
  ·obtain⟨x,rfl⟩:=hx;cases h
  ·rw [Fp hx] at h
   exact⟨⟨v::s.ls,trD dst v s.env,m',m'::s.gs⟩,⟨v,rfl,rfl,h1,rfl,hx⟩,h⟩
theorem Dj {cf:L8}{b:Nat}:∀(l:List (Nat×Inst)) (s:DS) (outs:List EM),sO l cf b s.ls s.env s.m s.gs=some outs→
  ∃S:Nat→DS,S 0=s∧(∀p x,l[p]?=some x→DStep cf b x (S p) (S (p+1)))∧outs=[⟨(S l.length).env,(S l.length).m,none,[]⟩]:=by
 intro l
 induction l with
 | nil=>
  intro s outs h
  have h:some [EM.mk s.env s.m none []]=some outs:=h
  cases h
  exact⟨fun _=>s,rfl,fun p x hp=>by simp at hp,rfl⟩
 | cons x l ih=>
  intro s outs h
  have h:aeN x.1 x.2.op x.2.dst x.2.guard (sO l) cf b s.ls s.env s.m s.gs=some outs:=h
  obtain⟨s',h1,h2⟩:=FB h
  obtain⟨S,g1,g2,g3⟩:=ih s' outs h2
  refine⟨fun p=>match p with | 0=>s | p+1=>S p,rfl,fun p y hp=>?_,by simpa using g3⟩
  cases p with
  | zero=>
   simp at hp;subst hp
   show DStep cf b x s (S 0)
   rw [g1];exact h1
  | succ p=>exact g2 p y (by simpa using hp)
def eU (ops:Array Oper)(ord:List Nat)(p:Nat):List (Option Nat):=((ord.take p).map fun i=>(ops[i]?).bind (·.dst)).reverse
theorem FC {P:Program}{slots:List Nat}{ops:Array Oper}:∀(l:List Nat) (done:List (Option Nat)) (insts:List Inst),jh P slots ops done l=some insts→
  insts.length=l.length∧∀p i,l[p]?=some i→∃x o,insts[p]?=some x∧ops[i]?=some o∧ED P slots (eU ops l p++done) ops i=some (x,o.dst):=by
 intro l
 induction l with
 | nil=>intro done insts h;simp only [jh,Option.some.injEq] at h;subst h;exact⟨rfl,fun p i hp=>by simp at hp⟩
 | cons j l ih=>
  intro done insts h
  obtain⟨x,d,l',hx,hl,rfl⟩:=iT h
  obtain⟨h1,h2⟩:=ih _ _ hl
  obtain⟨o,ho,rfl,_⟩:=mU hx
  refine⟨by simp [h1],fun p i hp=>?_⟩
  cases p with
  | zero=>simp at hp;subst hp;exact⟨x,o,rfl,ho,by simpa [eU] using hx⟩
  | succ p=>
   obtain⟨x',o',g1,g2,g3⟩:=h2 p i (by simpa using hp)
   refine⟨x',o',by simpa using g1,g2,?_⟩
   have:eU ops (j::l) (p+1)++done=eU ops l p++o.dst::done:=by simp [eU,ho]
   rw [this];exact g3
theorem Az (ms:List Nat):∀(l:List (Nat×Inst)) (effs:List Nat) (nal:Nat),(numbered ms l effs nal).length=l.length∧
  ∀p i x,l[p]?=some (i,x)→∃c,(numbered ms l effs nal)[p]?=some (c,x)∧
   (isR x=true→c=(((((l.take p).filter fun y=>isE y.2).map (·.1)).reverse++effs).takeWhile fun e=>!mOf ms i e).length)∧
   (isR x=false→c=nal+((l.take p).filter fun y=>isA y.2).length):=by
 intro l
 induction l with
 | nil=>intro effs nal;exact⟨rfl,fun p i x hp=>by simp at hp⟩
 | cons z l ih=>
  intro effs nal
  obtain⟨j,y⟩:=z
  obtain⟨h1,h2⟩:=ih (if isE y then j::effs else effs) (if isA y then nal+1 else nal)
  refine⟨by simp [numbered,h1],fun p i x hp=>?_⟩
  cases p with
  | zero=>
   simp at hp
   obtain⟨rfl,rfl⟩:=hp
   exact⟨_,rfl,fun h=>by simp [aeQ,h],fun h=>by simp [aeQ,h]⟩
  | succ p=>
   obtain⟨c,g1,g2,g3⟩:=h2 p i x (by simpa using hp)
   refine⟨c,by simpa [numbered] using g1,fun h=>?_,fun h=>?_⟩
   ·rw [g2 h]
    cases hy:isE y<;>simp [hy]
   ·rw [g3 h]
    cases hy:isA y<;>simp [hy];omega
def Mem.sub (m m':Mem):Prop:=∀i b,m.get i=some b→gI b=false→m'.get i=some b
theorem nS {β:Type}{m m':Mem}(h:m.sub m'){i:Nat}{k:Nat→Nat→T (List o8)→Option β}{r:β}(hv:X0 (m.get i) k=some r):X0 (m'.get i) k=some r:=by
 obtain⟨rs,n,rows,h1,h2⟩:=iF hv
 rw [h i _ h1 rfl];exact h2
theorem AA {β:Type}{m m':Mem}(h:m.sub m'){i:Nat}{k:List (o8×o8)→Option β}{r:β}(hv:vEs (m.get i) k=some r):vEs (m'.get i) k=some r:=by
 obtain⟨es,h1,h2⟩:=qC hv
 rw [h i _ h1 rfl];exact h2
theorem oP {m m':Mem}(h:m.sub m'){i off n:Nat}{l:List o8}(hv:U6 m i off n=some l):U6 m' i off n=some l:=by
 cases n with
 | zero=>exact hv
 | succ n=>exact nS h (k:=fun rs k rows=>O1 rs k rows (n+1) off) hv
theorem Nh {m m':Mem}(h:m.sub m'){o:ROp}{ls:List o8}{env:T o8}{v:o8}(hv:trR o ls env m=some v):trR o ls env m'=some v:=by
 cases o with
 | load size x=>
  cases size with
  | none=>
   obtain⟨id,off,h1,hv⟩:=eO hv
   have h1:trO x ls env=.ptr id off:=h1
   show nD (trO x ls env) _=_
   rw [h1];exact nS h hv
  | some k=>
   obtain⟨id,off,h1,hv⟩:=eO hv
   have h1:trO x ls env=.ptr id off:=h1
   show nD (trO x ls env) _=_
   rw [h1];exact nS h hv
 | look kk z ok x y=>
  rcases nJ hv with⟨h1,hv⟩ | ⟨id,h1,hv⟩
  ·have h1:trO x ls env=.nilMap:=h1
   show wo (trO x ls env) _ _=_
   rw [h1];exact hv
  ·have h1:trO x ls env=.map id:=h1
   show wo (trO x ls env) _ _=_
   rw [h1];exact AA h hv
 | lenM x=>
  rcases nJ hv with⟨h1,hv⟩ | ⟨id,h1,hv⟩
  ·have h1:trO x ls env=.nilMap:=h1
   show wo (trO x ls env) _ _=_
   rw [h1];exact hv
  ·have h1:trO x ls env=.map id:=h1
   show wo (trO x ls env) _ _=_
   rw [h1];exact AA h hv
 | bytesStr x=>
  rcases oD hv with⟨h1,hv⟩ | ⟨id,off,len,cap,h1,hv⟩ | ⟨id,off,len,cap,h1,hv⟩
  ·have h1:trO x ls env=.nilSlice:=h1
   show vSl (trO x ls env) _ _ _=_
   rw [h1];exact hv
  ·have h1:trO x ls env=.slice id off len cap:=h1
   show vSl (trO x ls env) _ _ _=_
   rw [h1]
   obtain⟨l,h2,hv⟩:=J7 hv
   show ob (U6 m' id off len) _=_
   rw [oP h h2];exact hv
  ·have h1:trO x ls env=.sliceU id off len cap:=h1
   show vSl (trO x ls env) _ _ _=_
   rw [h1]
   obtain⟨l,h2,hv⟩:=J7 hv
   show ob (U6 m' id off len) _=_
   rw [oP h h2];exact hv
 | entry x=>
  obtain⟨id,off,h1,hv⟩:=eO hv
  have h1:trO x ls env=.ptr id off:=h1
  show nD (trO x ls env) _=_
  rw [h1]
  obtain⟨h2,hv⟩:=K8 hv
  show bi (Nat.beq off 0) _ none=_
  rw [h2]
  rcases uW hv with⟨_,_,_,hv⟩ | ⟨mp,since,seen,h3,hv⟩
  ·cases hv
  ·show Jd (m'.get id) _ _=_
   rw [h id _ h3 rfl]
   cases seen with
   | nil=>cases hv
   | cons i t=>exact AA h hv
theorem fZ {f:o8→o8→Bool}(hf:∀x y,f x y=true→x=y):∀a b:List o8,zN f a b=true→a=b
 | [],[],_=>rfl
 | [],y::b,h=>by cases h
 | x::a,[],h=>by cases h
 | x::a,y::b,h=>by
  have h:bi (f x y) (zN f a b) false=true:=h
  cases hx:f x y with
  | false=>rw [hx] at h;cases h
  | true=>rw [hx] at h;rw [hf x y hx,fZ hf a b h]
theorem dH {a b:Bool}(h:bi a b false=true):a=true∧b=true:=by cases a<;>cases b<;>first | exact⟨rfl,rfl⟩ | cases h
theorem dR:∀(n:Nat) (x y:o8),cK n x y=true→x=y:=by
 intro n
 induction n with
 | zero=>intro x y h;cases h
 | succ n ih=>
  intro x y h
  cases x with
  | bool a=>cases y<;>first | (cases h;done) | (have h:wz _ _=true:=h;rw [qw] at h;rw [eq_of_beq h])
  | int k a=>
   cases y<;>first | (cases h;done) | skip
   obtain⟨h1,h2⟩:=dH (a:=kEq _ _) (b:=rR _ _) h
   rw [EN] at h1;rw [iK] at h2
   rw [of_decide_eq_true h1,eq_of_beq h2]
  | str a=>cases y<;>first | (cases h;done) | (have h:strEq _ _=true:=h;rw [pR] at h;rw [eq_of_beq h])
  | ptr a b=>
   cases y<;>first | (cases h;done) | skip
   obtain⟨h1,h2⟩:=dH (a:=Nat.beq _ _) (b:=Nat.beq _ _) h
   rw [Nat.eq_of_beq_eq_true h1,Nat.eq_of_beq_eq_true h2]
  | slice a b c d=>
   cases y<;>first | (cases h;done) | skip
   obtain⟨h1,h⟩:=dH (a:=Nat.beq _ _) h
   obtain⟨h2,h⟩:=dH (a:=Nat.beq _ _) h
   obtain⟨h3,h4⟩:=dH (a:=Nat.beq _ _) h
   rw [Nat.eq_of_beq_eq_true h1,Nat.eq_of_beq_eq_true h2,Nat.eq_of_beq_eq_true h3,Nat.eq_of_beq_eq_true h4]
  | sliceU a b c d=>
   cases y<;>first | (cases h;done) | skip
   obtain⟨h1,h⟩:=dH (a:=Nat.beq _ _) h
   obtain⟨h2,h⟩:=dH (a:=Nat.beq _ _) h
   obtain⟨h3,h4⟩:=dH (a:=Nat.beq _ _) h
   rw [Nat.eq_of_beq_eq_true h1,Nat.eq_of_beq_eq_true h2,Nat.eq_of_beq_eq_true h3,Nat.eq_of_beq_eq_true h4]
  | map a=>cases y<;>first | (cases h;done) | (have h:Nat.beq _ _=true:=h;rw [Nat.eq_of_beq_eq_true h])
  | func fn a b=>
   cases fn<;>cases y<;>first | (cases h;done) | skip
   all_goals
   rename_i f fn' c d
   cases fn'<;>first | (cases h;done) | skip
   obtain⟨h1,h⟩:=dH (a:=Nat.beq _ _) h
   obtain⟨h2,h3⟩:=dH h
   rw [Nat.eq_of_beq_eq_true h1,fZ ih _ _ h2,fZ ih _ _ h3]
  | iface t a=>
   cases y<;>first | (cases h;done) | skip
   obtain⟨h1,h2⟩:=dH (a:=Nat.beq _ _) h
   rw [Nat.eq_of_beq_eq_true h1,ih _ _ h2]
  | agg a=>cases y<;>first | (cases h;done) | (rw [fZ ih _ _ h])
  | tuple a=>cases y<;>first | (cases h;done) | (rw [fZ ih _ _ h])
  | _=>cases y<;>first | rfl | (cases h;done)
theorem qO {f:RF}{ls:List o8}{env:T o8}{v:o8}:∀{n:Nat} {gs:List Mem},stable f ls env v n gs=true→∀k,k<n→∃g,gs[k]?=some g∧f ls env g=some v
 | 0,_,_,k,hk=>by omega
 | n+1,[],h,k,hk=>by cases h
 | n+1,g::gs,h,k,hk=>by
  have h:bi (Option.rec false (fun u=>cK 100 u v) (f ls env g)) (stable f ls env v n gs) false=true:=h
  obtain⟨h1,h2⟩:=dH h
  cases k with
  | zero=>
   refine⟨g,rfl,?_⟩
   cases hf:f ls env g with
   | none=>rw [hf] at h1;cases h1
   | some u=>rw [hf] at h1;rw [dR 100 u v h1]
  | succ k=>
   obtain⟨g',h3,h4⟩:=qO h2 k (by omega)
   exact⟨g',by simpa using h3,h4⟩
theorem qP {b:Option Blk}(h:isVoid b=true):b=some .void:=by
 unfold isVoid at h
 split at h
 ·rfl
 ·cases h
theorem oQ {i:Nat}:∀{gs:List Mem},jy i gs=true→∀g∈gs,g.get i=some .void
 | [],_,g,hg=>by cases hg
 | x::gs,h,g,hg=>by
  obtain⟨h1,h2⟩:=dH (a:=isVoid (x.get i)) (b:=jy i gs) h
  rcases List.mem_cons.1 hg with rfl | hg
  ·exact qP h1
  ·exact oQ h2 g hg
end Go.AM
namespace Go.AM
open Go
section
variable {P:Program}{G:Mem}{ι:Inj}{m:Mem}{w:World}
theorem xL (m:Mem):reserve 0 m=m:=rfl
theorem xM (n:Nat)(m:Mem):reserve (n+1) m=reserve n (m.new .void):=rfl
theorem BQ (h:RM P G ι m w.heap):Step P G ι m w ι (m.new .void) w:=by
 have hget:=Mem.Y5 h.ok .void
 have hne:∀i x,m.get i=some x→i≠m.next:=fun i x hx e=>by have:=Mem.L9 h.ok hx;omega
 have hhas:∀i,m.has i→(m.new .void).has i:=fun i ⟨x,hx,hv⟩=>⟨x,by rw [hget,if_neg (hne i x hx)];exact hx,hv⟩
 have hold:∀i x,(m.new .void).get i=some x→Y4 x=true→m.get i=some x:=fun i x hx hl=>by
  rw [hget] at hx
  split at hx
  ·cases hx;cases hl
  ·exact hx
 refine⟨⟨h.ok.push .void,?_,?_,h.glim,Nat.le_succ_of_le h.limn,h.gle,fun i hi=>by rw [hget,if_neg (by have:=h.glim;have:=h.limn;omega)];exact h.base i hi,fun i hi=>hhas i (h.ghas i hi),h.glob,fun i x hx hl=>h.spot i x (hold i x hx hl) hl⟩,
  fun _ _=>rfl,hhas,Nat.le_succ _,rfl,fun i hi=>by rw [hget,if_neg (by have:=h.limn;omega)],Nat.le_refl _,fun _ _ _=>rfl,?_,rfl,rfl,rfl⟩
 ·intro i x hx
  rw [hget] at hx
  split at hx
  ·cases hx;trivial
  ·exact (h.blk i x hx).mono (n:=m.nm ι) (fun _ _=>rfl) (Mem.aA hhas fun _ _=>rfl) fun _=>rfl
 ·intro i x hi hx hl
  have ho:=h.own i x hi (hold i x hx hl) hl
  exact⟨fun j y hj hy hly=>ho.alone j y hj (hold j y hy hly) hly,ho.free⟩
 ·rintro b ⟨i,x,hi,hx,hl,rfl⟩
  exact .inl ⟨i,x,hi,hold i x hx hl,hl,rfl⟩
theorem oU:∀(n:Nat) {m:Mem},RM P G ι m w.heap→Step P G ι m w ι (reserve n m) w
 | 0,_,h=>Step.refl h
 | n+1,_,h=>(BQ h).trans (oU n (BQ h).rm)
structure awg (P:Program)(ι:Inj)(n:Nm)(h:Array Obj)(id:Nat)(b:Blk)(m:Mem):Prop where
 blk:dM P ι n h (ι id) b
 live:gI b=false
 alone:Y4 b=true→∀j y,j≠id→m.get j=some y→Y4 y=true→(ι j).b≠(ι id).b
 free:Y4 b=true→∀c e fz,h[(ι id).b]?=some (.cells c e fz)→∀k,k<c.size→¬ (fz.1≤k∧k<fz.2)
 spot:Y4 b=true→(ι id).spot=none
theorem Step.add {ι0:Inj}{m0:Mem}{w0:World}(hst:Step P G ι0 m0 w0 ι m w){id:Nat}{b:Blk}(hv:m.get id=some .void)(hid:m.lim≤id)(hl:awg P ι ((m.set id b).nm ι) w.heap id b m)
  (hnew:Y4 b=true→w0.heap.size≤(ι id).b):Step P G ι0 m0 w0 ι (m.set id b) w:=by
 have h:=hst.rm
 have hlt:=Mem.L9 h.ok hv
 have hget:=Mem.Z6 h.ok hlt b
 have hnv:¬ m.has id:=fun ⟨x,h1,h2⟩=>by rw [hv] at h1;cases h1;cases h2
 have hhas:∀i,m.has i→(m.set id b).has i:=fun i hi=>by
  have hne:i≠id:=fun e=>hnv (e▸hi)
  obtain⟨x,h1,h2⟩:=hi
  exact⟨x,by rw [hget,if_neg hne];exact h1,h2⟩
 have hcase:∀i x,(m.set id b).get i=some x→(i=id∧x=b)∨(i≠id∧m.get i=some x):=fun i x hx=>by
  rw [hget] at hx
  split at hx
  ·cases hx;exact .inl ⟨by assumption,rfl⟩
  ·exact .inr ⟨by assumption,hx⟩
 refine⟨⟨h.ok.put id b hlt,?_,?_,h.glim,h.limn,h.gle,fun i hi=>by rw [hget,if_neg (by have:=h.glim;omega)];exact h.base i hi,fun i hi=>hhas i (h.ghas i hi),h.glob,fun i x hx hlx=>by
   rcases hcase i x hx with⟨rfl,rfl⟩ | ⟨_,hx⟩
   ·exact hl.spot hlx
   ·exact h.spot i x hx hlx⟩,
  hst.ext,fun i hi=>hhas i (hst.has i hi),hst.next,hst.lim,fun i hi=>by rw [hget,if_neg (by have:=hst.lim;omega)];exact hst.old i hi,hst.size,hst.frame,?_,hst.os,hst.out,hst.tape⟩
 ·intro i x hx
  rcases hcase i x hx with⟨rfl,rfl⟩ | ⟨hne,hx⟩
  ·exact hl.blk
  ·exact (h.blk i x hx).mono (n:=m.nm ι) (fun _ _=>rfl) (Mem.aA hhas fun _ _=>rfl) fun _=>rfl
 ·intro i x hi hx hlx
  rcases hcase i x hx with⟨rfl,rfl⟩ | ⟨hne,hx⟩
  ·refine⟨fun j y hj hy hly=>?_,hl.free hlx⟩
   rcases hcase j y hy with⟨h1,_⟩ | ⟨h1,h2⟩
   ·exact absurd h1 hj
   ·exact hl.alone hlx j y hj h2 hly
  ·rename_i hx'
   have ho:=h.own i x hi hx hlx
   refine⟨fun j y hj hy hly=>?_,ho.free⟩
   rcases hcase j y hy with⟨rfl,rfl⟩ | ⟨h1,h2⟩
   ·exact fun e=>hl.alone hly i x hne hx hlx e.symm
   ·exact ho.alone j y hj h2 hly
 ·rintro b' ⟨i,x,hi,hx,hlx,rfl⟩
  rcases hcase i x hx with⟨rfl,rfl⟩ | ⟨hne,hx⟩
  ·exact .inr (hnew hlx)
  ·exact hst.own _ ⟨i,x,hi,hx,hlx,rfl⟩
theorem Step.push {ι':Inj}{w':World}{o:Obj}(h:RM P G ι m w.heap)(hw:UQ w w' o)(hext:∀i,m.has i→ι' i=ι i):Step P G ι m w ι' m w':=by
 have hpush:∀k,k<w.heap.size→w'.heap[k]?=w.heap[k]?:=fun k hk=>by rw [hw.heap];exact (Array.getElem?_push_lt hk).trans (Array.getElem?_eq_getElem hk).symm
 have hnm:(m.nm ι).le (m.nm ι'):=Mem.aA (fun i hi=>hi) hext
 have hlive:∀i x,m.get i=some x→Y4 x=true→ι' i=ι i:=fun i x hx hl=>hext i (ko hx hl)
 refine⟨⟨h.ok,?_,?_,h.glim,h.limn,h.gle,h.base,h.ghas,fun i hi=>by rw [hext i (h.ghas i hi)];exact h.glob i hi,fun i x hx hl=>by rw [hlive i x hx hl];exact h.spot i x hx hl⟩,hext,fun i hi=>hi,Nat.le_refl _,rfl,fun _ _=>rfl,by rw [hw.heap];simp,fun b hb _=>hpush b hb,?_,hw.os,hw.out,hw.tape⟩
 ·intro i x hx
  by_cases hv:gI x=true
  ·cases x<;>first | trivial | cases hv
  ·rw [hext i ⟨x,hx,by simpa using hv⟩]
   exact (h.blk i x hx).mono (n:=m.nm ι) hext hnm fun hl=>hpush _ (cZ (h.blk i x hx) hl)
 ·intro i x hi hx hl
  have ho:=h.own i x hi hx hl
  have hb:=cZ (h.blk i x hx) hl
  refine⟨fun j y hj hy hly=>?_,fun c e fz hc=>?_⟩
  ·rw [hlive i x hx hl,hlive j y hy hly];exact ho.alone j y hj hy hly
  ·rw [hlive i x hx hl,hpush _ hb] at hc;exact ho.free c e fz hc
 ·rintro b ⟨i,x,hi,hx,hl,rfl⟩
  rw [hlive i x hx hl]
  exact .inl ⟨i,x,hi,hx,hl,rfl⟩
end
section
variable {P:Program}{G:Mem}{slots:List Nat}{nt:Nat}{cf:L8}{b:Nat}{ops:Array Oper}{ord:List Nat}{X:Nat→Nat×Inst}{S:Nat→DS}
def JG (ops:Array Oper)(ord:List Nat)(X:Nat→Nat×Inst)(p i:Nat):Opd→Prop
 | .loc k=>∃j,k<p∧ord[p-1-k]?=some j∧Dep ops i j
 | .slot j=>∀q,q<p→(X q).2.dst≠some j
 | .con _=>True
def BR (ord:List Nat)(X:Nat→Nat×Inst):Nat→List Nat
 | 0=>[]
 | p+1=>if isE (X p).2 then (ord.getD p 0)::BR ord X p else BR ord X p
structure Fixed (P:Program)(slots:List Nat)(nt:Nat)(cf:L8)(b:Nat)(ops:Array Oper)(ord:List Nat)(X:Nat→Nat×Inst)(S:Nat→DS):Prop where
 nodup:ord.Nodup
 all:∀i,i<ops.size→i∈ord
 lt:∀i∈ord,i<ops.size
 inst:∀(p i:Nat),ord[p]?=some i→∃o,ops[i]?=some o∧(X p).2.op=rQ P slots (eU ops ord p) o.op∧(X p).2.dst=KP slots o.dst∧iR ops (eU ops ord p) o.guard (X p).2.guard
 step:∀p,p<ord.length→DStep cf b (X p) (S p) (S (p+1))
 eff:∀(p i:Nat),ord[p]?=some i→isE (X p).2=true→∀(q j:Nat),q<p→ord[q]?=some j→Dep ops i j
 edges:∀(p i:Nat) (o:Oper),ord[p]?=some i→ops[i]?=some o→∀e∈o.after,Region.binds .any e=true→∃q:Nat,q<p∧ord[q]?=some e.on
 dsts:∀(i j:Nat) (oi oj:Oper) (t:Tmp),ops[i]?=some oi→ops[j]?=some oj→oi.dst=some t→oj.dst=some t→i=j
 looks:∀(i:Nat) (o:Oper) (t:Tmp),ops[i]?=some o→t∈sS ops o→∀(q:Nat) (oq:Oper),ops[q]?=some oq→q≠i→oq.dst=some t→Dep ops i q∨Dep ops q i
 opd:∀(p i:Nat),ord[p]?=some i→∀y∈TV (X p).2.op,JG ops ord X p i y
 opdg:∀(p i:Nat) (y:Opd) (wt:Bool),ord[p]?=some i→(X p).2.guard=some (y,wt)→JG ops ord X p i y
 cnt:∀(p i:Nat) o,ord[p]?=some i→(X p).2.op=.r o→(X p).1=((BR ord X p).takeWhile fun e=>!mOf (masks ops.toList) i e).length
 nal:∀(p q:Nat) o o',p<q→q<ord.length→(X p).2.op=.a o→(X q).2.op=.a o'→(X p).1<(X q).1
 din:∀(i:Nat) (o:Oper) (t:Tmp),ops[i]?=some o→o.dst=some t→t<nt
 gs0:(S 0).gs=[(S 0).m]
 ls0:(S 0).ls=[]
def Vof (S:Nat→DS)(p:Nat):o8:=(S (p+1)).ls.headD .undef
noncomputable def iH (b:Nat)(X:Nat→Nat×Inst)(S:Nat→DS)(p:Nat):Option (Nat×Blk):=match (X p).2.op with
 | .a o=>match ML (X p).2.guard (trL o) (S p).ls (S p).env (b+(X p).1) with
  | some (_,some blk)=>some (b+(X p).1,blk)
  | _=>none
 | _=>none
noncomputable def dI (b:Nat)(X:Nat→Nat×Inst)(S:Nat→DS)(q:Nat)(L:Nat→Bool):Nat→Mem
 | 0=>(S q).m
 | d+1=>if L (q+d) then (match iH b X S (q+d) with
    | some (i,blk)=>(dI b X S q L d).set i blk
    | none=>dI b X S q L d)
  else dI b X S q L d
theorem JH {x:Nat×Inst}{s s':DS}(h:DStep cf b x s s'):∃v,s'.ls=v::s.ls∧s'.env=trD x.2.dst v s.env:=by
 obtain⟨v,h1,h2,_⟩:=h;exact⟨v,h1,h2⟩
theorem Fixed.ls (F:Fixed P slots nt cf b ops ord X S){p:Nat}(hp:p<ord.length):(S (p+1)).ls=Vof S p::(S p).ls∧(S (p+1)).env=trD (X p).2.dst (Vof S p) (S p).env:=by
 obtain⟨v,h1,h2⟩:=JH (F.step p hp)
 have:Vof S p=v:=by simp [Vof,h1]
 rw [this];exact⟨h1,h2⟩
theorem Fixed.len (F:Fixed P slots nt cf b ops ord X S):∀p,p≤ord.length→(S p).ls.length=p∧∀k,k<p→(S p).ls[k]?=some (Vof S (p-1-k)):=by
 intro p
 induction p with
 | zero=>intro _;exact⟨by rw [F.ls0];rfl,fun k hk=>by omega⟩
 | succ p ih=>
  intro hp
  obtain⟨h1,h2⟩:=ih (by omega)
  obtain⟨h3,_⟩:=F.ls (p:=p) (by omega)
  rw [h3]
  refine⟨by simp [h1],fun k hk=>?_⟩
  cases k with
  | zero=>simp
  | succ k=>
   rw [List.getElem?_cons_succ,h2 k (by omega),show p+1-1-(k+1)=p-1-k from by omega]
theorem Fixed.gs (F:Fixed P slots nt cf b ops ord X S){q:Nat}(hq:q=0∨isE (X (q-1)).2=true):∀d,q+d≤ord.length→
  ∃r:Nat,(S (q+d)).gs[r]?=some (S q).m∧∀k:Nat,k<r→∃pos e,q≤pos∧pos<q+d∧ord[pos]?=some e∧isE (X pos).2=true∧(BR ord X (q+d))[k]?=some e:=by
 intro d
 induction d with
 | zero=>
  intro hd
  refine⟨0,?_,fun k hk=>by omega⟩
  rcases hq with rfl | hq
  ·rw [Nat.add_zero,F.gs0];rfl
  ·cases q with
   | zero=>rw [Nat.add_zero,F.gs0];rfl
   | succ q=>
    have hs:=F.step q (by omega)
    obtain⟨v,_,_,hs⟩:=hs
    simp only [Nat.add_sub_cancel] at hq
    unfold isE at hq
    split at hq
    ·rename_i e he
     rw [he] at hs
     rw [Nat.add_zero,hs.2.1];rfl
    ·cases hq
 | succ d ih=>
  intro hd
  obtain⟨r,h1,h2⟩:=ih (by omega)
  obtain⟨v,_,_,hs⟩:=F.step (q+d) (by omega)
  have hpos:q+d<ord.length:=by omega
  have hget:ord[q+d]?=some (ord.getD (q+d) 0):=by
   rw [List.getD_eq_getElem?_getD,List.getElem?_eq_getElem hpos];rfl
  cases he:isE (X (q+d)).2 with
  | true=>
   have hgs:(S (q+(d+1))).gs=(S (q+(d+1))).m::(S (q+d)).gs:=by
    unfold isE at he
    split at he
    ·rename_i e he';rw [he'] at hs;exact hs.2.1
    ·cases he
   refine⟨r+1,by rw [hgs];simpa using h1,fun k hk=>?_⟩
   have heff:BR ord X (q+(d+1))=ord.getD (q+d) 0::BR ord X (q+d):=by
    show BR ord X (q+d+1)=_
    simp [BR,he]
   cases k with
   | zero=>exact⟨q+d,_,by omega,by omega,hget,he,by rw [heff];rfl⟩
   | succ k=>
    obtain⟨pos,e,g1,g2,g3,g4,g5⟩:=h2 k (by omega)
    exact⟨pos,e,g1,by omega,g3,g4,by rw [heff];simpa using g5⟩
  | false=>
   have hgs:(S (q+(d+1))).gs=(S (q+d)).gs:=by
    unfold isE at he
    split at he
    ·cases he
    ·rename_i hne
     cases hop:(X (q+d)).2.op with
     | p o=>rw [hop] at hs;exact hs.2.2
     | r o=>rw [hop] at hs;exact hs.2.2.2
     | a o=>rw [hop] at hs;obtain⟨_,_,_,_,_,_,h⟩:=hs;exact h
     | e o=>exact absurd hop (hne o)
   refine⟨r,by rw [hgs];exact h1,fun k hk=>?_⟩
   obtain⟨pos,e,g1,g2,g3,g4,g5⟩:=h2 k hk
   refine⟨pos,e,g1,by omega,g3,g4,?_⟩
   have:BR ord X (q+(d+1))=BR ord X (q+d):=by show BR ord X (q+d+1)=_;simp [BR,he]
   rw [this];exact g5
theorem mX {α:Type}(f:α→Bool):∀(l:List α) (r:Nat),(∀k,k<r→∃e,l[k]?=some e∧f e=true)→r≤(l.takeWhile f).length
 | _,0,_=>Nat.zero_le _
 | [],r+1,h=>by obtain⟨e,h1,_⟩:=h 0 (by omega);simp at h1
 | x::l,r+1,h=>by
  obtain⟨e,h1,h2⟩:=h 0 (by omega)
  simp at h1;subst h1
  rw [List.takeWhile_cons,if_pos h2]
  have:=mX f l r (fun k hk=>by obtain⟨e,h3,h4⟩:=h (k+1) (by omega);exact⟨e,by simpa using h3,h4⟩)
  simpa using this
theorem Fixed.made (F:Fixed P slots nt cf b ops ord X S){p:Nat}(hp:p<ord.length){i:Nat}{blk:Blk}(h:iH b X S p=some (i,blk)):
  i=b+(X p).1∧(∃o,(X p).2.op=.a o∧ML (X p).2.guard (trL o) (S p).ls (S p).env (b+(X p).1)=some (Vof S p,some blk))∧(S (p+1)).m=(S p).m.set i blk∧(S p).m.get i=some .void∧∀g∈(S p).gs,g.get i=some .void:=by
 obtain⟨v,h1,h2,hs⟩:=F.step p hp
 have hv:Vof S p=v:=by simp [Vof,h1]
 unfold iH at h
 split at h
 ·rename_i o ho
  rw [ho] at hs
  obtain⟨r,g1,g2,g3,g4,g5,g6⟩:=hs
  rw [g1] at h
  obtain⟨u,bl⟩:=r
  cases bl with
  | none=>cases h
  | some bl=>
   cases h
   exact⟨rfl,⟨o,ho,by rw [g1,hv,g2]⟩,g5,qP g3,oQ g4⟩
 ·cases h
theorem Fixed.JI (F:Fixed P slots nt cf b ops ord X S){p q:Nat}(hp:p<q)(hq:q<ord.length){i j:Nat}{x y:Blk}(h:iH b X S p=some (i,x))(h':iH b X S q=some (j,y)):i<j:=by
 obtain⟨h1,⟨o,h2,_⟩,_⟩:=F.made (by omega) h
 obtain⟨h3,⟨o',h4,_⟩,_⟩:=F.made hq h'
 have:=F.nal p q o o' hp hq h2 h4
 omega
theorem Fixed.quiet (F:Fixed P slots nt cf b ops ord X S){p:Nat}(hp:p<ord.length)(he:isE (X p).2=false):(S (p+1)).m=(match iH b X S p with | some (i,blk)=>(S p).m.set i blk | none=>(S p).m):=by
 cases hm:iH b X S p with
 | some y=>obtain⟨i,blk⟩:=y;exact (F.made hp hm).2.2.1
 | none=>
  obtain⟨v,_,_,hs⟩:=F.step p hp
  cases hop:(X p).2.op with
  | p o=>rw [hop] at hs;exact hs.2.1
  | r o=>rw [hop] at hs;exact hs.2.2.1
  | e o=>simp [isE,hop] at he
  | a o=>
   rw [hop] at hs
   obtain⟨r,g1,_,_,_,g5,_⟩:=hs
   rw [g5]
   obtain⟨u,bl⟩:=r
   cases bl with
   | none=>rfl
   | some bl=>simp [iH,hop,g1] at hm
end
end Go.AM
namespace Go.AM
open Go
section
variable {P:Program}{G:Mem}{slots:List Nat}{nt:Nat}{cf:L8}{b:Nat}{ops:Array Oper}{ord:List Nat}{X:Nat→Nat×Inst}{S:Nat→DS}
structure JJ (b:Nat)(ord:List Nat)(X:Nat→Nat×Inst)(S:Nat→DS)(q:Nat)(L:Nat→Bool)(d:Nat):Prop where
 ok:T.Ok (dI b X S q L d).t (dI b X S q L d).next
 next:(dI b X S q L d).next=(S q).m.next
 lim:(dI b X S q L d).lim=(S q).m.lim
 later:∀p i blk,q+d≤p→p<ord.length→iH b X S p=some (i,blk)→(dI b X S q L d).get i=some .void
 from_:∀j y,(dI b X S q L d).get j=some y→(S q).m.get j=some y∨∃d',d'<d∧L (q+d')=true∧iH b X S (q+d')=some (j,y)
 laid:∀d' i blk,d'<d→L (q+d')=true→iH b X S (q+d')=some (i,blk)→(dI b X S q L d).get i=some blk
 sub:(S q).m.sub (dI b X S q L d)
theorem Fixed.AB (F:Fixed P slots nt cf b ops ord X S){q p:Nat}(hq:q=0∨isE (X (q-1)).2=true)(hqp:q≤p)(hp:p<ord.length){i:Nat}{blk:Blk}(h:iH b X S p=some (i,blk)):(S q).m.get i=some .void:=by
 obtain⟨r,h1,_⟩:=F.gs hq (p-q) (by omega)
 rw [show q+(p-q)=p from by omega] at h1
 exact (F.made hp h).2.2.2.2 _ (List.mem_of_getElem? h1)
theorem Fixed.lay (F:Fixed P slots nt cf b ops ord X S){q:Nat}(hq:q=0∨isE (X (q-1)).2=true)(hok:T.Ok (S q).m.t (S q).m.next)(L:Nat→Bool):∀d,q+d≤ord.length→JJ b ord X S q L d:=by
 intro d
 induction d with
 | zero=>
  intro _
  exact⟨hok,rfl,rfl,fun p i blk h1 h2 h3=>F.AB hq (by omega) h2 h3,fun j y h=>.inl h,fun d' i blk h=>by omega,fun i y h _=>h⟩
 | succ d ih=>
  intro hd
  have H:=ih (by omega)
  cases hL:L (q+d) with
  | false=>
   have e:dI b X S q L (d+1)=dI b X S q L d:=by simp [dI,hL]
   refine⟨by rw [e];exact H.ok,by rw [e];exact H.next,by rw [e];exact H.lim,fun p i blk h1 h2 h3=>by rw [e];exact H.later p i blk (by omega) h2 h3,fun j y h=>?_,fun d' i blk h1 h2 h3=>?_,by rw [e];exact H.sub⟩
   ·rw [e] at h
    rcases H.from_ j y h with h | ⟨d',h1,h2⟩
    ·exact .inl h
    ·exact .inr ⟨d',by omega,h2⟩
   ·by_cases hd':d'=d
    ·subst hd';rw [hL] at h2;cases h2
    ·rw [e];exact H.laid d' i blk (by omega) h2 h3
  | true=>
   cases hm:iH b X S (q+d) with
   | none=>
    have e:dI b X S q L (d+1)=dI b X S q L d:=by simp [dI,hL,hm]
    refine⟨by rw [e];exact H.ok,by rw [e];exact H.next,by rw [e];exact H.lim,fun p i blk h1 h2 h3=>by rw [e];exact H.later p i blk (by omega) h2 h3,fun j y h=>?_,fun d' i blk h1 h2 h3=>?_,by rw [e];exact H.sub⟩
    ·rw [e] at h
     rcases H.from_ j y h with h | ⟨d',h1,h2⟩
     ·exact .inl h
     ·exact .inr ⟨d',by omega,h2⟩
    ·by_cases hd':d'=d
     ·subst hd';rw [hm] at h3;cases h3
     ·rw [e];exact H.laid d' i blk (by omega) h2 h3
   | some y=>
    obtain⟨i0,blk0⟩:=y
    have e:dI b X S q L (d+1)=(dI b X S q L d).set i0 blk0:=by simp [dI,hL,hm]
    have hv:=H.later (q+d) i0 blk0 (Nat.le_refl _) (by omega) hm
    have hlt:=Mem.L9 H.ok hv
    have hget:=Mem.Z6 H.ok hlt blk0
    refine⟨by rw [e];exact H.ok.put i0 blk0 hlt,by rw [e];exact H.next,by rw [e];exact H.lim,fun p i blk h1 h2 h3=>?_,fun j y h=>?_,fun d' i blk h1 h2 h3=>?_,fun i y h hy=>?_⟩
    ·have hne:=F.JI (p:=q+d) (q:=p) (by omega) h2 hm h3
     rw [e,hget,if_neg (by omega)];exact H.later p i blk (by omega) h2 h3
    ·rw [e,hget] at h
     split at h
     ·rename_i he
      cases h
      exact .inr ⟨d,by omega,hL,by rw [he];exact hm⟩
     ·rcases H.from_ j y h with h | ⟨d',h1,h2⟩
      ·exact .inl h
      ·exact .inr ⟨d',by omega,h2⟩
    ·by_cases hd':d'=d
     ·subst hd';rw [hm] at h3;cases h3;rw [e,hget,if_pos rfl]
     ·have hne:=F.JI (p:=q+d') (q:=q+d) (by omega) (by omega) h3 hm
      rw [e,hget,if_neg (by omega)];exact H.laid d' i blk (by omega) h2 h3
    ·have:=H.sub i y h hy
     rw [e,hget,if_neg (fun he=>by rw [he,hv] at this;cases this;cases hy)];exact this
theorem Fixed.qQ (F:Fixed P slots nt cf b ops ord X S){q:Nat}(hq:q=0∨isE (X (q-1)).2=true)(hok:T.Ok (S q).m.t (S q).m.next){L L':Nat→Bool}{d d':Nat}(hd:d≤d')(hd':q+d'≤ord.length)
  (hL:∀k,k<d→L (q+k)=true→L' (q+k)=true) {j:Nat} (h:(dI b X S q L d).has j):(dI b X S q L' d').has j:=by
 obtain⟨y,h1,h2⟩:=h
 have H:=F.lay hq hok L d (by omega)
 have H':=F.lay hq hok L' d' hd'
 rcases H.from_ j y h1 with h | ⟨k,h3,h4,h5⟩
 ·exact⟨y,H'.sub j y h h2,h2⟩
 ·exact⟨y,H'.laid k j y (by omega) (hL k h3 h4) h5,h2⟩
theorem Fixed.lay_all (F:Fixed P slots nt cf b ops ord X S){q:Nat}{L:Nat→Bool}:∀d,q+d≤ord.length→(∀k,k<d→L (q+k)=true∧isE (X (q+k)).2=false)→dI b X S q L d=(S (q+d)).m:=by
 intro d
 induction d with
 | zero=>intro _ _;rfl
 | succ d ih=>
  intro hd h
  obtain⟨h1,h2⟩:=h d (by omega)
  have e:=ih (by omega) fun k hk=>h k (by omega)
  have hq:=F.quiet (p:=q+d) (by omega) h2
  show (if L (q+d) then _ else _)=_
  rw [h1,if_pos rfl,show q+(d+1)=q+d+1 from rfl,hq]
  cases iH b X S (q+d) with
  | none=>exact e
  | some y=>obtain⟨i,blk⟩:=y;simp only [];rw [e]
def Lp (ord:List Nat)(listed:Array Bool)(p:Nat):Bool:=match ord[p]? with
 | some i=>listed.getD i false
 | none=>false
structure qR (P:Program)(G:Mem)(b:Nat)(ops:Array Oper)(ord:List Nat)(X:Nat→Nat×Inst)(S:Nat→DS)(ι0:Inj)(m0:Mem)(w0:World)(a0:Act)(listed:Array Bool)(a:Act)(w:World)(ι:Inj)(q:Nat):Prop where
 hq:q≤ord.length
 head:q=0∨isE (X (q-1)).2=true
 low:∀p,p<q→Lp ord listed p=true
 high:∀p,q≤p→isE (X p).2=true→Lp ord listed p=false
 base:Step P G ι0 m0 w0 ι (S q).m w
 ext:∀d i blk,Lp ord listed (q+d)=true→iH b X S (q+d)=some (i,blk)→dM P ι ((dI b X S q (Lp ord listed) (d+1)).nm ι) w.heap (ι i) blk∧gI blk=false∧
  (Y4 blk=true→(w0.heap.size≤(ι i).b∧(ι i).spot=none)∧(∀j y,(S q).m.get j=some y→Y4 y=true→(ι j).b≠(ι i).b)∧∀c e fz,w.heap[(ι i).b]?=some (.cells c e fz)→∀k,k<c.size→¬ (fz.1≤k∧k<fz.2))
 ext2:∀d d' i i' blk blk',d≠d'→Lp ord listed (q+d)=true→Lp ord listed (q+d')=true→iH b X S (q+d)=some (i,blk)→iH b X S (q+d')=some (i',blk')→Y4 blk=true→Y4 blk'=true→(ι i').b≠(ι i).b
 vals:∀d,Lp ord listed (q+d)=true→(Vof S (q+d)).lt ((dI b X S q (Lp ord listed) (d+1)).nm ι)
 valsl:∀p,p<q→(Vof S p).lt ((S q).m.nm ι)
 tw:∀p i o t,ord[p]?=some i→listed.getD i false=true→ops[i]?=some o→o.dst=some t→a.tmps.getD t undef=I4 ι (Vof S p)
 tn:∀t,(∀i o,listed.getD i false=true→ops[i]?=some o→o.dst≠some t)→a.tmps.getD t undef=a0.tmps.getD t undef
 sz:a.tmps.size=a0.tmps.size
 defs:a.defers=a0.defers
 closed:Ay ops listed
 len:listed.size=ops.size
variable {ι0 ι:Inj}{m0:Mem}{w0 w:World}{a0 a:Act}{listed:Array Bool}{q:Nat}
theorem qR.lay (F:Fixed P slots nt cf b ops ord X S)(hb:m0.lim≤b)(D:qR P G b ops ord X S ι0 m0 w0 a0 listed a w ι q):∀d,q+d≤ord.length→Step P G ι0 m0 w0 ι (dI b X S q (Lp ord listed) d) w:=by
 intro d
 induction d with
 | zero=>intro _;exact D.base
 | succ d ih=>
  intro hd
  have H:=ih (by omega)
  have LF:=F.lay D.head D.base.rm.ok (Lp ord listed) d (by omega)
  cases hL:Lp ord listed (q+d) with
  | false=>
   have e:dI b X S q (Lp ord listed) (d+1)=dI b X S q (Lp ord listed) d:=by simp [dI,hL]
   rw [e];exact H
  | true=>
   cases hm:iH b X S (q+d) with
   | none=>
    have e:dI b X S q (Lp ord listed) (d+1)=dI b X S q (Lp ord listed) d:=by simp [dI,hL,hm]
    rw [e];exact H
   | some y=>
    obtain⟨i,blk⟩:=y
    have e:dI b X S q (Lp ord listed) (d+1)=(dI b X S q (Lp ord listed) d).set i blk:=by simp [dI,hL,hm]
    obtain⟨g1,g2,g3⟩:=D.ext d i blk hL hm
    rw [e] at g1 ⊢
    have hi:=(F.made (p:=q+d) (by omega) hm).1
    refine H.add (LF.later (q+d) i blk (Nat.le_refl _) (by omega) hm) (by rw [LF.lim,D.base.lim];omega) ⟨g1,g2,fun hl j y hj hy hly=>?_,fun hl=>(g3 hl).2.2,fun hl=>(g3 hl).1.2⟩ fun hl=>(g3 hl).1.1
    rcases LF.from_ j y hy with hy | ⟨d',h1,h2,h3⟩
    ·exact (g3 hl).2.1 j y hy hly
    ·exact D.ext2 d d' i j blk y (by omega) hL h2 hm h3 hl hly
noncomputable def vm (ord:List Nat)(S:Nat→DS)(listed:Array Bool)(p:Nat):o8:=if Lp ord listed p then Vof S p else .undef
noncomputable def lsM (ord:List Nat)(S:Nat→DS)(listed:Array Bool):Nat→List o8
 | 0=>[]
 | p+1=>vm ord S listed p::lsM ord S listed p
noncomputable def IQ (ord:List Nat)(X:Nat→Nat×Inst)(S:Nat→DS)(listed:Array Bool):Nat→T o8
 | 0=>(S 0).env
 | p+1=>trD (X p).2.dst (vm ord S listed p) (IQ ord X S listed p)
noncomputable def tmM (ops:Array Oper)(ord:List Nat)(S:Nat→DS)(listed:Array Bool)(ι:Inj)(a0:Act):Nat→Array Value
 | 0=>a0.tmps
 | p+1=>match (ord[p]?).bind fun i=>(ops[i]?).bind (·.dst) with
  | some t=>(tmM ops ord S listed ι a0 p).setIfInBounds t (I4 ι (vm ord S listed p))
  | none=>tmM ops ord S listed ι a0 p
theorem kP:∀p,(tmM ops ord S listed ι a0 p).size=a0.tmps.size
 | 0=>rfl
 | p+1=>by
  simp only [tmM]
  split
  ·simp [kP p]
  ·exact kP p
theorem AJ (ops:Array Oper)(ord:List Nat)(p:Nat)(hp:p<ord.length):eU ops ord (p+1)=((ord[p]?).bind fun i=>(ops[i]?).bind (·.dst))::eU ops ord p:=by
 unfold eU
 rw [List.take_succ_eq_append_getElem hp,List.map_append,List.reverse_append,List.getElem?_eq_getElem hp]
 rfl
theorem qR.st (F:Fixed P slots nt cf b ops ord X S)(hb:m0.lim≤b)(D:qR P G b ops ord X S ι0 m0 w0 a0 listed a w ι q)(hen:aL ι0 (m0.nm ι0) slots (S 0).env a0.tmps)(hnt:nt≤a0.tmps.size)(d:Nat)(hd:q+d≤ord.length):
  ∀p,p≤q+d→St P ι ((dI b X S q (Lp ord listed) d).nm ι) slots (eU ops ord p) (lsM ord S listed p) (IQ ord X S listed p) (tmM ops ord S listed ι a0 p):=by
 have H:=D.lay F hb d hd
 intro p
 induction p with
 | zero=>
  intro _
  refine⟨fun t k hk=>by simp [eU,fK] at hk,H.env hen,H.rm.glob,H.rm.ghas⟩
 | succ p ih=>
  intro hp
  have s:=ih (by omega)
  have hpl:p<ord.length:=by omega
  obtain⟨i,hi⟩:∃i,ord[p]?=some i:=⟨ord[p],List.getElem?_eq_getElem hpl⟩
  obtain⟨o,ho,_,hdst,_⟩:=F.inst p i hi
  have hv:(vm ord S listed p).lt ((dI b X S q (Lp ord listed) d).nm ι):=by
   unfold vm
   split
   ·rename_i hL
    by_cases hpq:p<q
    ·exact o8.Q9 (Mem.aA (fun j ⟨y,h1,h2⟩=>⟨y,(F.lay D.head D.base.rm.ok _ d hd).sub j y h1 h2,h2⟩) fun _ _=>rfl) _ (D.valsl p hpq)
    ·have:=D.vals (p-q) (by rw [show q+(p-q)=p from by omega];exact hL)
     rw [show q+(p-q)=p from by omega] at this
     exact o8.Q9 (Mem.aA (fun j hj=>F.qQ D.head D.base.rm.ok (by omega) hd (fun _ _ h=>h) hj) fun _ _=>rfl) _ this
   ·trivial
  have hdone:eU ops ord (p+1)=o.dst::eU ops ord p:=by rw [AJ ops ord p hpl,hi];simp [ho]
  have:=s.put o.dst (fun t ht=>by rw [kP];exact Nat.lt_of_lt_of_le (F.din i o t ho ht) hnt) hv
  rw [hdone]
  show St P ι _ slots _ (vm ord S listed p::lsM ord S listed p) (trD (X p).2.dst (vm ord S listed p) (IQ ord X S listed p)) (tmM ops ord S listed ι a0 (p+1))
  rw [hdst]
  have e:tmM ops ord S listed ι a0 (p+1)=(match o.dst with | some t=>(tmM ops ord S listed ι a0 p).setIfInBounds t (I4 ι (vm ord S listed p)) | none=>tmM ops ord S listed ι a0 p):=by
   simp only [tmM,hi,Option.bind_some,ho]
  rw [e];exact this
theorem FD (S:Nat→DS):∀(p k:Nat),k<p→(lsM ord S listed p)[k]?=some (vm ord S listed (p-1-k))
 | 0,k,h=>by omega
 | p+1,0,_=>by simp [lsM]
 | p+1,k+1,h=>by rw [lsM,List.getElem?_cons_succ,FD S p k (by omega),show p+1-1-(k+1)=p-1-k from by omega]
theorem JK (F:Fixed P slots nt cf b ops ord X S){j:Nat}:∀p,p≤ord.length→(∀r,r<p→(X r).2.dst≠some j)→∀ls ls':List o8,trO (.slot j) ls (IQ ord X S listed p)=trO (.slot j) ls' (S p).env:=by
 intro p
 induction p with
 | zero=>intro _ _ ls ls';rfl
 | succ p ih=>
  intro hp h ls ls'
  obtain⟨_,h2⟩:=F.ls (p:=p) (by omega)
  rw [h2]
  show trO (.slot j) ls (trD (X p).2.dst (vm ord S listed p) (IQ ord X S listed p))=_
  rw [vC (h p (by omega)) _ ls ls,vC (h p (by omega)) _ ls' ls']
  exact ih (by omega) (fun r hr=>h r (by omega)) ls ls'
theorem qR.opd (F:Fixed P slots nt cf b ops ord X S)(D:qR P G b ops ord X S ι0 m0 w0 a0 listed a w ι q){p i:Nat}(hp:p<ord.length)(hdep:∀j,Dep ops i j→listed.getD j false=true){y:Opd}(h:JG ops ord X p i y):
  Sm id (S p).ls (S p).env (lsM ord S listed p) (IQ ord X S listed p) y:=by
 show trO y (lsM ord S listed p) (IQ ord X S listed p)=trO y (S p).ls (S p).env
 cases y with
 | loc k=>
  obtain⟨j,h1,h2,h3⟩:=h
  rw [zT,zT,FD S p k h1,(F.len p (by omega)).2 k h1]
  have:Lp ord listed (p-1-k)=true:=by simp only [Lp,h2];exact hdep j h3
  simp [vm,this]
 | slot j=>exact JK F p (by omega) h _ _
 | con c=>rfl
theorem vF {t:Nat}:∀p,(∀r i o,r<p→ord[r]?=some i→ops[i]?=some o→o.dst≠some t)→(tmM ops ord S listed ι a0 p).getD t undef=a0.tmps.getD t undef:=by
 intro p
 induction p with
 | zero=>intro _;rfl
 | succ p ih=>
  intro h
  have:=ih fun r i o hr=>h r i o (by omega)
  simp only [tmM]
  split
  ·rename_i t' ht
   obtain⟨i,hi,ht⟩:=Option.bind_eq_some_iff.1 ht
   obtain⟨o,ho,ht⟩:=Option.bind_eq_some_iff.1 ht
   have hne:t'≠t:=fun e=>h p i o (by omega) hi ho (by rw [ht,e])
   rw [Array.getD_eq_getD_getElem?,Array.getElem?_setIfInBounds_ne hne,← Array.getD_eq_getD_getElem?];exact this
  ·exact this
theorem BS (F:Fixed P slots nt cf b ops ord X S)(hnt:nt≤a0.tmps.size){t r i:Nat}{o:Oper}(hr:ord[r]?=some i)(ho:ops[i]?=some o)(ht:o.dst=some t):∀p,r<p→(tmM ops ord S listed ι a0 p).getD t undef=I4 ι (vm ord S listed r):=by
 intro p
 induction p with
 | zero=>intro h;omega
 | succ p ih=>
  intro h
  simp only [tmM]
  by_cases hrp:r=p
  ·subst hrp
   simp only [hr,Option.bind_some,ho,ht]
   rw [U7 _ _ _ _ (by rw [kP];exact Nat.lt_of_lt_of_le (F.din i o t ho ht) hnt),if_pos rfl]
  ·have:=ih (by omega)
   split
   ·rename_i t' ht'
    obtain⟨i',hi',ht'⟩:=Option.bind_eq_some_iff.1 ht'
    obtain⟨o',ho',ht'⟩:=Option.bind_eq_some_iff.1 ht'
    have hne:t'≠t:=fun e=>by
     subst e
     have:=F.dsts i i' o o' t' ho ho' ht ht'
     subst this
     exact hrp ((List.getElem?_inj (List.getElem?_eq_some_iff.1 hr).1 F.nodup).1 (hr.trans hi'.symm))
    rw [Array.getD_eq_getD_getElem?,Array.getElem?_setIfInBounds_ne hne,← Array.getD_eq_getD_getElem?];exact this
   ·exact this
theorem qR.looks (F:Fixed P slots nt cf b ops ord X S)(hnt:nt≤a0.tmps.size)(D:qR P G b ops ord X S ι0 m0 w0 a0 listed a w ι q){p i:Nat}{o:Oper}(hp:ord[p]?=some i)(ho:ops[i]?=some o)(hun:listed.getD i false=false)
  (hdep:∀j,Dep ops i j→listed.getD j false=true) {t:Nat} (ht:t∈sS ops o):a.tmps.getD t undef=(tmM ops ord S listed ι a0 p).getD t undef:=by
 by_cases hw:∃j oj,ops[j]?=some oj∧oj.dst=some t∧j≠i
 ·obtain⟨j,oj,hj,hjt,hji⟩:=hw
  obtain⟨r,hr⟩:=List.getElem?_of_mem (F.all j (Array.getElem?_eq_some_iff.1 hj).1)
  have hpl:=(List.getElem?_eq_some_iff.1 hp).1
  rcases F.looks i o t ho ht j oj hj hji hjt with h | h
  ·have hL:=hdep j h
   have hrp:r<p:=by
    rcases Nat.lt_trichotomy r p with h1 | h1 | h1
    ·exact h1
    ·subst h1;rw [hp] at hr;exact absurd (Option.some.inj hr).symm hji
    ·exact absurd (dep_before F h hp hr) (by omega)
   rw [D.tw r j oj t hr hL hj hjt,BS F hnt hr hj hjt p hrp]
   simp [vm,Lp,hr,hL]
  ·have hrp:p<r:=dep_before F h hr hp
   have hnl:listed.getD j false=false:=by
    cases hl:listed.getD j false with
    | false=>rfl
    | true=>
     have:=h.listed D.closed (D.closed j · hl)
     rw [hun] at this;cases this
   rw [D.tn t ?_,vF p ?_]
   ·intro r' i' o' hr' hi' ho' e
    have:=F.dsts j i' oj o' t hj ho' hjt e
    subst this
    have:r'=r:=(List.getElem?_inj (List.getElem?_eq_some_iff.1 hi').1 F.nodup).1 (hi'.trans hr.symm)
    omega
   ·intro i' o' hl' ho' e
    have:=F.dsts j i' oj o' t hj ho' hjt e
    subst this
    rw [hnl] at hl';cases hl'
 ·have hno:∀j oj,ops[j]?=some oj→oj.dst=some t→j=i:=fun j oj hj hjt=>Classical.byContradiction fun hne=>hw ⟨j,oj,hj,hjt,hne⟩
  rw [D.tn t ?_,vF p ?_]
  ·intro r' i' o' hr' hi' ho' e
   have:=hno i' o' ho' e
   subst this
   have:r'=p:=(List.getElem?_inj (List.getElem?_eq_some_iff.1 hi').1 F.nodup).1 (hi'.trans hp.symm)
   omega
  ·intro i' o' hl' ho' e
   have:=hno i' o' ho' e
   subst this
   rw [hun] at hl';cases hl'
where
 dep_before {P:Program} {slots:List Nat} {nt:Nat} {cf:L8} {b:Nat} {ops:Array Oper} {ord:List Nat} {X:Nat→Nat×Inst} {S:Nat→DS} (F:Fixed P slots nt cf b ops ord X S) {i j:Nat} (h:Dep ops i j):∀{p r:Nat},ord[p]?=some i→ord[r]?=some j→r<p:=by
  induction h with
  | @edge i o e ho he hb=>
   intro p r hp hr
   obtain⟨q,h1,h2⟩:=F.edges p i o hp ho e he hb
   have:q=r:=(List.getElem?_inj (List.getElem?_eq_some_iff.1 h2).1 F.nodup).1 (h2.trans hr.symm)
   omega
  | @more i o e j ho he hb _ ih=>
   intro p r hp hr
   obtain⟨q,h1,h2⟩:=F.edges p i o hp ho e he hb
   have:=ih h2 hr
   omega
end
end Go.AM
namespace Go.AM
open Go
section
variable {P:Program}{G:Mem}{slots:List Nat}{nt:Nat}{cf:L8}{b:Nat}{ops:Array Oper}{ord:List Nat}{X:Nat→Nat×Inst}{S:Nat→DS}
variable {ι0 ι:Inj}{m0:Mem}{w0 w:World}{a0 a:Act}{listed:Array Bool}{q:Nat}
theorem Step.rename {m:Mem}{ι1 ι2:Inj}(hst:Step P G ι0 m0 w0 ι1 m w)(hext:∀i,m.has i→ι2 i=ι1 i):Step P G ι0 m0 w0 ι2 m w:=by
 have h:=hst.rm
 have hnm:(m.nm ι1).le (m.nm ι2):=Mem.aA (fun i hi=>hi) hext
 have hlive:∀i x,m.get i=some x→Y4 x=true→ι2 i=ι1 i:=fun i x hx hl=>hext i (ko hx hl)
 refine⟨⟨h.ok,?_,?_,h.glim,h.limn,h.gle,h.base,h.ghas,fun i hi=>by rw [hext i (h.ghas i hi)];exact h.glob i hi,fun i x hx hl=>by rw [hlive i x hx hl];exact h.spot i x hx hl⟩,fun i hi=>(hext i (hst.has i hi)).trans (hst.ext i hi),hst.has,hst.next,hst.lim,hst.old,hst.size,hst.frame,?_,hst.os,hst.out,hst.tape⟩
 ·intro i x hx
  by_cases hv:gI x=true
  ·cases x<;>first | trivial | cases hv
  ·rw [hext i ⟨x,hx,by simpa using hv⟩]
   exact (h.blk i x hx).mono (n:=m.nm ι1) hext hnm fun _=>rfl
 ·intro i x hi hx hl
  have ho:=h.own i x hi hx hl
  refine⟨fun j y hj hy hly=>?_,fun c e fz hc=>?_⟩
  ·rw [hlive i x hx hl,hlive j y hy hly];exact ho.alone j y hj hy hly
  ·rw [hlive i x hx hl] at hc;exact ho.free c e fz hc
 ·rintro b ⟨i,x,hi,hx,hl,rfl⟩
  rw [hlive i x hx hl]
  exact hst.own _ ⟨i,x,hi,hx,hl,rfl⟩
theorem vG {p:Nat}(h:Lp ord listed p=true):p<ord.length:=by
 unfold Lp at h
 split at h
 ·rename_i i hi;exact (List.getElem?_eq_some_iff.1 hi).1
 ·cases h
theorem qU {p i:Nat}(hp:ord[p]?=some i):Lp ord listed p=listed.getD i false:=by simp [Lp,hp]
theorem gU (A:Array Bool)(i j:Nat)(hi:i<A.size):(A.setIfInBounds i true).getD j false=if j=i then true else A.getD j false:=by
 rw [Array.getD_eq_getD_getElem?,Array.getD_eq_getD_getElem?]
 by_cases h:i=j
 ·subst h;rw [if_pos rfl,Array.getElem?_setIfInBounds_self_of_lt hi];rfl
 ·rw [if_neg (fun e=>h e.symm),Array.getElem?_setIfInBounds_ne h]
theorem FE (hnd:ord.Nodup){p i:Nat}(hp:ord[p]?=some i)(hi:i<listed.size)(r:Nat):Lp ord (listed.setIfInBounds i true) r=if r=p then true else Lp ord listed r:=by
 by_cases hr:r=p
 ·subst hr;rw [qU hp,gU _ _ _ hi,if_pos rfl,if_pos rfl]
 ·rw [if_neg hr]
  unfold Lp
  cases hj:ord[r]? with
  | none=>rfl
  | some j=>
   show (listed.setIfInBounds i true).getD j false=_
   rw [gU _ _ _ hi,if_neg]
   intro e;subst e
   exact hr ((List.getElem?_inj (List.getElem?_eq_some_iff.1 hj).1 hnd).1 (hj.trans hp.symm))
theorem qR.UY (F:Fixed P slots nt cf b ops ord X S)(hnt:nt≤a0.tmps.size)(D:qR P G b ops ord X S ι0 m0 w0 a0 listed a w ι q){p i:Nat}{o:Oper}(hp:ord[p]?=some i)(ho:ops[i]?=some o){ι':Inj}
  (hc:∀r,Lp ord listed r=true→I4 ι' (Vof S r)=I4 ι (Vof S r)):
  (∀r j o' t,ord[r]?=some j→(listed.setIfInBounds i true).getD j false=true→ops[j]?=some o'→o'.dst=some t→(a.put o.dst (I4 ι' (Vof S p))).tmps.getD t undef=I4 ι' (Vof S r))∧
  (∀t,(∀j o',(listed.setIfInBounds i true).getD j false=true→ops[j]?=some o'→o'.dst≠some t)→(a.put o.dst (I4 ι' (Vof S p))).tmps.getD t undef=a0.tmps.getD t undef)∧
  (a.put o.dst (I4 ι' (Vof S p))).tmps.size=a0.tmps.size∧(a.put o.dst (I4 ι' (Vof S p))).defers=a0.defers:=by
 have hi:i<listed.size:=by rw [D.len];exact (Array.getElem?_eq_some_iff.1 ho).1
 refine⟨fun r j o' t hr hl hj ht=>?_,fun t h=>?_,by rw [bW];exact D.sz,by rw [(iQ a o.dst _).2];exact D.defs⟩
 ·rw [(iQ a o.dst _).1]
  rw [gU _ _ _ hi] at hl
  by_cases hji:j=i
  ·subst hji
   rw [ho] at hj;cases hj
   have:r=p:=(List.getElem?_inj (List.getElem?_eq_some_iff.1 hr).1 F.nodup).1 (hr.trans hp.symm)
   subst this
   rw [ht]
   show (a.tmps.setIfInBounds t _).getD t undef=_
   rw [U7 _ _ _ _ (by rw [D.sz];exact Nat.lt_of_lt_of_le (F.din _ o t ho ht) hnt),if_pos rfl]
  ·rw [if_neg hji] at hl
   have h1:=D.tw r j o' t hr hl hj ht
   rw [hc r (by rw [qU hr];exact hl),← h1]
   cases hd:o.dst with
   | none=>rfl
   | some t'=>
    have hne:t'≠t:=fun e=>hji (F.dsts j i o' o t hj ho ht (by rw [hd,e]))
    show (a.tmps.setIfInBounds t' _).getD t undef=_
    rw [Array.getD_eq_getD_getElem?,Array.getElem?_setIfInBounds_ne hne,← Array.getD_eq_getD_getElem?]
 ·rw [(iQ a o.dst _).1]
  have hnot:=h i o (by rw [gU _ _ _ hi,if_pos rfl]) ho
  have h1:=D.tn t fun j o' hl hj=>h j o' (by rw [gU _ _ _ hi];split<;>simp_all) hj
  rw [← h1]
  cases hd:o.dst with
  | none=>rfl
  | some t'=>
   have hne:t'≠t:=fun e=>hnot (by rw [hd,e])
   show (a.tmps.setIfInBounds t' _).getD t undef=_
   rw [Array.getD_eq_getD_getElem?,Array.getElem?_setIfInBounds_ne hne,← Array.getD_eq_getD_getElem?]
theorem qR.closed' (D:qR P G b ops ord X S ι0 m0 w0 a0 listed a w ι q){i:Nat}{o:Oper}(ho:ops[i]?=some o)(hr:∀e∈o.after,Region.binds .any e=true→listed.getD e.on false=true):
  Ay ops (listed.setIfInBounds i true):=by
 have hi:i<listed.size:=by rw [D.len];exact (Array.getElem?_eq_some_iff.1 ho).1
 intro j oj hj hoj e he hb
 rw [gU _ _ _ hi] at hj ⊢
 by_cases hji:j=i
 ·subst hji
  rw [ho] at hoj;cases hoj
  rw [hr e he hb];split<;>rfl
 ·rw [if_neg hji] at hj
  rw [D.closed j oj hj hoj e he hb];split<;>rfl
theorem qR.quiet (F:Fixed P slots nt cf b ops ord X S)(hnt:nt≤a0.tmps.size)(D:qR P G b ops ord X S ι0 m0 w0 a0 listed a w ι q){d i:Nat}{o:Oper}(hp:ord[q+d]?=some i)(ho:ops[i]?=some o)(hun:listed.getD i false=false)
  (hr:∀e∈o.after,Region.binds .any e=true→listed.getD e.on false=true) (hE:isE (X (q+d)).2=false) {ι':Inj} {w':World} (hst:Step P G ι (S q).m w ι' (S q).m w') (hheap:∀k,k<w.heap.size→w'.heap[k]?=w.heap[k]?)
  (hι:∀j,(∀blk,iH b X S (q+d)≠some (j,blk))→ι' j=ι j)
  (hblk:∀id blk,iH b X S (q+d)=some (id,blk)→dM P ι' ((dI b X S q (Lp ord (listed.setIfInBounds i true)) (d+1)).nm ι') w'.heap (ι' id) blk∧gI blk=false∧
   (Y4 blk=true→((ι' id).b=w.heap.size∧(ι' id).spot=none)∧∀c e fz,w'.heap[(ι' id).b]?=some (.cells c e fz)→∀k,k<c.size→¬ (fz.1≤k∧k<fz.2)))
  (hV:(Vof S (q+d)).lt ((dI b X S q (Lp ord (listed.setIfInBounds i true)) (d+1)).nm ι')):
  qR P G b ops ord X S ι0 m0 w0 a0 (listed.setIfInBounds i true) (a.put o.dst (I4 ι' (Vof S (q+d)))) w' ι' q:=by
 have hi:i<listed.size:=by rw [D.len];exact (Array.getElem?_eq_some_iff.1 ho).1
 have hpl:q+d<ord.length:=(List.getElem?_eq_some_iff.1 hp).1
 have hLs:=FE (listed:=listed) F.nodup hp hi
 have hLmono:∀r,Lp ord listed r=true→Lp ord (listed.setIfInBounds i true) r=true:=fun r hL=>by rw [hLs];split<;>simp [hL]
 have hLn:Lp ord listed (q+d)=false:=by rw [qU hp];exact hun
 have hnames:∀d',q+d'≤ord.length→∀j,(dI b X S q (Lp ord listed) d').has j→ι' j=ι j:=by
  intro d' hd' j hj
  refine hι j fun blk hm=>?_
  obtain⟨y,h1,h2⟩:=hj
  have hv:=F.AB D.head (Nat.le_add_right q d) hpl hm
  rcases (F.lay D.head D.base.rm.ok (Lp ord listed) d' hd').from_ j y h1 with h | ⟨d3,h3,h4,h5⟩
  ·rw [hv] at h;cases h;cases h2
  ·rcases Nat.lt_trichotomy d d3 with h6 | h6 | h6
   ·have:=F.JI (p:=q+d) (q:=q+d3) (by omega) (vG h4) hm h5;omega
   ·subst h6;rw [hLn] at h4;cases h4
   ·have:=F.JI (p:=q+d3) (q:=q+d) (by omega) hpl h5 hm;omega
 have hle:∀d',q+d'≤ord.length→((dI b X S q (Lp ord listed) d').nm ι).le ((dI b X S q (Lp ord (listed.setIfInBounds i true)) d').nm ι'):=fun d' hd'=>
  Mem.aA (fun j hj=>F.qQ D.head D.base.rm.ok (Nat.le_refl _) hd' (fun k _ h=>hLmono _ h) hj) (hnames d' hd')
 have hext:∀d' id blk,d'≠d→Lp ord listed (q+d')=true→iH b X S (q+d')=some (id,blk)→ι' id=ι id∧(Y4 blk=true→(ι id).b<w.heap.size):=by
  intro d' id blk hne hL hm
  have hl:=vG hL
  obtain⟨g1,g2,_⟩:=D.ext d' id blk hL hm
  refine⟨hnames (d'+1) (by omega) id ⟨blk,(F.lay D.head D.base.rm.ok _ (d'+1) (by omega)).laid d' id blk (by omega) hL hm,g2⟩,fun hlv=>cZ g1 hlv⟩
 have hne:∀d',Lp ord (listed.setIfInBounds i true) (q+d')=true→d'≠d→Lp ord listed (q+d')=true:=fun d' h hd=>by rw [hLs,if_neg (by omega)] at h;exact h
 have hvals:∀r,Lp ord listed r=true→I4 ι' (Vof S r)=I4 ι (Vof S r):=by
  intro r hL
  have hl:=vG hL
  by_cases hrq:r<q
  ·exact Q7 (n:=(S q).m.nm ι) hst.ext _ (D.valsl r hrq)
  ·have:=D.vals (r-q) (by rw [show q+(r-q)=r from by omega];exact hL)
   rw [show q+(r-q)=r from by omega] at this
   exact Q7 (n:=(dI b X S q (Lp ord listed) (r-q+1)).nm ι) (hnames _ (by omega)) _ this
 obtain⟨t1,t2,t3,t4⟩:=D.UY F hnt hp ho hvals
 refine⟨D.hq,D.head,fun p hpq=>hLmono p (D.low p hpq),fun p hqp he=>?_,D.base.trans hst,?_,?_,?_,fun p hpq=>?_,t1,t2,t3,t4,D.closed' ho hr,by simpa using D.len⟩
 ·rw [hLs,if_neg (fun e=>by rw [e,hE] at he;cases he)];exact D.high p hqp he
 ·intro d' id blk hL hm
  by_cases hd:d'=d
  ·subst hd
   obtain⟨g1,g2,g3⟩:=hblk id blk hm
   refine⟨g1,g2,fun hlv=>⟨⟨by rw [(g3 hlv).1.1];exact D.base.size,(g3 hlv).1.2⟩,fun j y hj hly=>?_,(g3 hlv).2⟩⟩
   rw [(g3 hlv).1.1,hst.ext j (ko hj hly)]
   have:=cZ (D.base.rm.blk j y hj) hly
   omega
  ·have hL:=hne d' hL hd
   have hl:=vG hL
   obtain⟨g1,g2,g3⟩:=D.ext d' id blk hL hm
   obtain⟨e1,e2⟩:=hext d' id blk hd hL hm
   rw [e1]
   refine⟨g1.mono (hnames _ (by omega)) (hle _ (by omega)) fun hlv=>hheap _ (e2 hlv),g2,fun hlv=>⟨(g3 hlv).1,fun j y hj hly=>?_,fun c e fz hc=>?_⟩⟩
   ·rw [hst.ext j (ko hj hly)];exact (g3 hlv).2.1 j y hj hly
   ·rw [hheap _ (e2 hlv)] at hc;exact (g3 hlv).2.2 c e fz hc
 ·intro d1 d2 i1 i2 b1 b2 hd12 hL1 hL2 hm1 hm2 hl1 hl2
  by_cases h1:d1=d
  ·subst h1
   have hL2:=hne d2 hL2 (fun e=>hd12 e.symm)
   obtain⟨e1,e2⟩:=hext d2 i2 b2 (fun e=>hd12 e.symm) hL2 hm2
   rw [((hblk i1 b1 hm1).2.2 hl1).1.1,e1]
   have:=e2 hl2;omega
  ·have hL1:=hne d1 hL1 h1
   obtain⟨e1,e2⟩:=hext d1 i1 b1 h1 hL1 hm1
   by_cases h2:d2=d
   ·subst h2
    rw [((hblk i2 b2 hm2).2.2 hl2).1.1,e1]
    have:=e2 hl1;omega
   ·have hL2:=hne d2 hL2 h2
    rw [e1,(hext d2 i2 b2 h2 hL2 hm2).1]
    exact D.ext2 d1 d2 i1 i2 b1 b2 hd12 hL1 hL2 hm1 hm2 hl1 hl2
 ·intro d' hL
  by_cases hd:d'=d
  ·subst hd;exact hV
  ·have hL:=hne d' hL hd
   exact o8.Q9 (hle _ (by have:=vG hL;omega)) _ (D.vals d' hL)
 ·exact o8.Q9 (Mem.aA (fun j hj=>hj) hst.ext) _ (D.valsl p hpq)
theorem qR.effect (F:Fixed P slots nt cf b ops ord X S)(hb:m0.lim≤b)(hnt:nt≤a0.tmps.size)(D:qR P G b ops ord X S ι0 m0 w0 a0 listed a w ι q){d i:Nat}{o:Oper}(hp:ord[q+d]?=some i)(ho:ops[i]?=some o)(hun:listed.getD i false=false)
  (hr:∀e∈o.after,Region.binds .any e=true→listed.getD e.on false=true) (hE:isE (X (q+d)).2=true) (hall:∀k,k<d→Lp ord listed (q+k)=true) {ι':Inj} {w':World} (hst:Step P G ι (S (q+d)).m w ι' (S (q+d+1)).m w')
  (hV:(Vof S (q+d)).lt ((S (q+d+1)).m.nm ι')):
  ∃ι'',I4 ι'' (Vof S (q+d))=I4 ι' (Vof S (q+d))∧qR P G b ops ord X S ι0 m0 w0 a0 (listed.setIfInBounds i true) (a.put o.dst (I4 ι'' (Vof S (q+d)))) w' ι'' (q+d+1):=by
 have hi:i<listed.size:=by rw [D.len];exact (Array.getElem?_eq_some_iff.1 ho).1
 have hpl:q+d<ord.length:=(List.getElem?_eq_some_iff.1 hp).1
 have hLs:=FE (listed:=listed) F.nodup hp hi
 have hLmono:∀r,Lp ord listed r=true→Lp ord (listed.setIfInBounds i true) r=true:=fun r hL=>by rw [hLs];split<;>simp [hL]
 have hLn:Lp ord listed (q+d)=false:=by rw [qU hp];exact hun
 have hnoE:∀k,k<d→isE (X (q+k)).2=false:=fun k hk=>by
  cases he:isE (X (q+k)).2 with
  | false=>rfl
  | true=>have h1:=D.high (q+k) (by omega) he;rw [hall k hk] at h1;cases h1
 have hmem:=F.lay_all (L:=Lp ord listed) d (by omega) fun k hk=>⟨hall k hk,hnoE k hk⟩
 have hbase:=D.lay F hb d (by omega)
 rw [hmem] at hbase
 have LFd:=F.lay D.head D.base.rm.ok (Lp ord listed) d (by omega)
 have Lsub:=LFd.sub
 have Llaid:=LFd.laid
 have Lfrom:=LFd.from_
 rw [hmem] at Lsub Llaid Lfrom
 have hmkE:iH b X S (q+d)=none:=by
  cases hm:iH b X S (q+d) with
  | none=>rfl
  | some y=>
   obtain⟨j,blk⟩:=y
   obtain⟨_,⟨o',h1,_⟩,_⟩:=F.made hpl hm
   simp [isE,h1] at hE
 let E:Nat→Prop:=fun k=>∃p blk,q+d<p∧Lp ord listed p=true∧iH b X S p=some (k,blk)
 have hhead':q+d+1=0∨isE (X (q+d+1-1)).2=true:=.inr (by rw [Nat.add_sub_cancel];exact hE)
 have hvoid:∀k,E k→(S (q+d+1)).m.get k=some .void:=by
  rintro k ⟨p,blk,h1,h2,h3⟩
  exact F.AB hhead' (by omega) (vG h2) h3
 classical
 let ι'':Inj:=fun k=>if E k then ι k else ι' k
 have hE1:∀k,E k→ι'' k=ι k:=fun k hk=>if_pos hk
 have hE2:∀k,(S (q+d+1)).m.has k→ι'' k=ι' k:=fun k ⟨y,h1,h2⟩=>if_neg fun hk=>by rw [hvoid k hk] at h1;cases h1;cases h2
 have hst':Step P G ι0 m0 w0 ι'' (S (q+d+1)).m w':=(hbase.trans hst).rename hE2
 have hstι:Step P G ι (S (q+d)).m w ι'' (S (q+d+1)).m w':=hst.rename hE2
 have hok':=hst'.rm.ok
 have hc:=Q7 (n:=(S (q+d+1)).m.nm ι') (ι:=ι') (ι':=ι'') hE2 _ hV
 have hnames:∀d',q+d'≤ord.length→∀j,(dI b X S q (Lp ord listed) d').has j→ι'' j=ι j∧((S (q+d+1)).m.has j∨∃p blk,q+d<p∧p<q+d'∧Lp ord listed p=true∧iH b X S p=some (j,blk)∧gI blk=false):=by
  intro d' hd' j ⟨y,h1,h2⟩
  have hsub:(S (q+d)).m.has j→ι'' j=ι j∧(S (q+d+1)).m.has j:=fun hj=>⟨hstι.ext j hj,hstι.has j hj⟩
  rcases (F.lay D.head D.base.rm.ok (Lp ord listed) d' hd').from_ j y h1 with h | ⟨d3,h3,h4,h5⟩
  ·obtain⟨e1,e2⟩:=hsub ⟨y,Lsub j y h h2,h2⟩
   exact⟨e1,.inl e2⟩
  ·rcases Nat.lt_trichotomy d3 d with h6 | h6 | h6
   ·obtain⟨e1,e2⟩:=hsub ⟨y,Llaid d3 j y h6 h4 h5,h2⟩
    exact⟨e1,.inl e2⟩
   ·subst h6;rw [hLn] at h4;cases h4
   ·exact⟨hE1 j ⟨q+d3,y,by omega,h4,h5⟩,.inr ⟨q+d3,y,by omega,by omega,h4,h5,h2⟩⟩
 have hle:∀d1 d2,q+d1=q+d+1+d2→q+d1≤ord.length→((dI b X S q (Lp ord listed) d1).nm ι).le ((dI b X S (q+d+1) (Lp ord (listed.setIfInBounds i true)) d2).nm ι''):=by
  intro d1 d2 hd hd1
  refine Mem.aA (fun j hj=>?_) fun j hj=>(hnames d1 hd1 j hj).1
  have LF':=F.lay hhead' hok' (Lp ord (listed.setIfInBounds i true)) d2 (by omega)
  rcases (hnames d1 hd1 j hj).2 with⟨y,h1,h2⟩ | ⟨p,blk,h1,h2,h3,h4,h5⟩
  ·exact⟨y,LF'.sub j y h1 h2,h2⟩
  ·refine⟨blk,LF'.laid (p-(q+d+1)) j blk (by omega) (by rw [show q+d+1+(p-(q+d+1))=p from by omega];exact hLmono p h3) (by rw [show q+d+1+(p-(q+d+1))=p from by omega];exact h4),h5⟩
 have hold:∀d2,Lp ord (listed.setIfInBounds i true) (q+d+1+d2)=true→Lp ord listed (q+(d+1+d2))=true:=fun d2 h=>by
  rw [hLs,if_neg (by omega)] at h;rw [show q+(d+1+d2)=q+d+1+d2 from by omega];exact h
 have hnotown:∀d1 id blk,d<d1→Lp ord listed (q+d1)=true→iH b X S (q+d1)=some (id,blk)→Y4 blk=true→(ι id).b<w.heap.size∧∀j y,(S (q+d)).m.get j=some y→Y4 y=true→(ι j).b≠(ι id).b:=by
  intro d1 id blk hd1 hL hm hlv
  obtain⟨g1,g2,g3⟩:=D.ext d1 id blk hL hm
  refine⟨cZ g1 hlv,fun j y hj hly=>?_⟩
  rcases Lfrom j y hj with h | ⟨d3,h3,h4,h5⟩
  ·exact (g3 hlv).2.1 j y h hly
  ·exact D.ext2 d1 d3 id j blk y (by omega) hL h4 hm h5 hlv hly
 have hframe:∀d1 id blk,d<d1→Lp ord listed (q+d1)=true→iH b X S (q+d1)=some (id,blk)→Y4 blk=true→w'.heap[(ι id).b]?=w.heap[(ι id).b]?:=by
  intro d1 id blk hd1 hL hm hlv
  obtain⟨g1,g2⟩:=hnotown d1 id blk hd1 hL hm hlv
  exact hst.frame _ g1 fun ⟨j,y,_,hj,hly,e⟩=>g2 j y hj hly e
 have hvals:∀r,Lp ord listed r=true→I4 ι'' (Vof S r)=I4 ι (Vof S r):=by
  intro r hL
  have hl:=vG hL
  by_cases hrq:r<q
  ·have h1:=D.valsl r hrq
   exact Q7 (n:=(S q).m.nm ι) (fun j hj=>(hnames 0 (by omega) j hj).1) _ h1
  ·have:=D.vals (r-q) (by rw [show q+(r-q)=r from by omega];exact hL)
   rw [show q+(r-q)=r from by omega] at this
   exact Q7 (n:=(dI b X S q (Lp ord listed) (r-q+1)).nm ι) (fun j hj=>(hnames _ (by omega) j hj).1) _ this
 obtain⟨t1,t2,t3,t4⟩:=D.UY F hnt hp ho hvals
 refine⟨ι'',hc,by omega,hhead',fun p hpq=>?_,fun p hqp he=>?_,hst',?_,?_,?_,fun p hpq=>?_,t1,t2,t3,t4,D.closed' ho hr,by simpa using D.len⟩
 ·rw [hLs]
  split
  ·rfl
  ·by_cases h:p<q
   ·exact D.low p h
   ·have:=hall (p-q) (by omega)
    rwa [show q+(p-q)=p from by omega] at this
 ·rw [hLs,if_neg (by omega)];exact D.high p (by omega) he
 ·intro d2 id blk hL hm
  have hL:=hold d2 hL
  have hm':iH b X S (q+(d+1+d2))=some (id,blk):=by rw [show q+(d+1+d2)=q+d+1+d2 from by omega];exact hm
  have hl:=vG hL
  obtain⟨g1,g2,g3⟩:=D.ext (d+1+d2) id blk hL hm'
  have e1:ι'' id=ι id:=hE1 id ⟨q+(d+1+d2),blk,by omega,hL,hm'⟩
  rw [e1]
  refine⟨g1.mono (fun j hj=>(hnames _ (by omega) j hj).1) (hle (d+1+d2+1) (d2+1) (by omega) (by omega)) fun hlv=>hframe _ id blk (by omega) hL hm' hlv,g2,fun hlv=>⟨(g3 hlv).1,fun j y hj hly=>?_,fun c e fz hcc=>?_⟩⟩
  ·obtain⟨n1,n2⟩:=hnotown (d+1+d2) id blk (by omega) hL hm' hlv
   rw [hE2 j (ko hj hly)]
   by_cases hjl:(S (q+d)).m.lim≤j
   ·rcases hst.own _ ⟨j,y,by rw [hst.lim];exact hjl,hj,hly,rfl⟩ with⟨j',y',_,hj',hly',e⟩ | h
    ·rw [← e];exact n2 j' y' hj' hly'
    ·omega
   ·have hj':(S (q+d)).m.get j=some y:=by rw [← hst.old j (by omega)];exact hj
    rw [hst.ext j (ko hj' hly)]
    exact n2 j y hj' hly
  ·rw [hframe _ id blk (by omega) hL hm' hlv] at hcc;exact (g3 hlv).2.2 c e fz hcc
 ·intro d1 d2 i1 i2 b1 b2 hd12 hL1 hL2 hm1 hm2 hl1 hl2
  have hL1:=hold d1 hL1
  have hL2:=hold d2 hL2
  rw [show q+d+1+d1=q+(d+1+d1) from by omega] at hm1
  rw [show q+d+1+d2=q+(d+1+d2) from by omega] at hm2
  rw [hE1 i1 ⟨_,b1,by omega,hL1,hm1⟩,hE1 i2 ⟨_,b2,by omega,hL2,hm2⟩]
  exact D.ext2 (d+1+d1) (d+1+d2) i1 i2 b1 b2 (by omega) hL1 hL2 hm1 hm2 hl1 hl2
 ·intro d2 hL
  have hL:=hold d2 hL
  have hl:=vG hL
  have:=D.vals (d+1+d2) hL
  rw [show q+(d+1+d2)=q+d+1+d2 from by omega] at this
  exact o8.Q9 (hle (d+1+d2+1) (d2+1) (by omega) (by omega)) _ this
 ·by_cases h:p=q+d
  ·subst h;exact o8.Q9 (Mem.aA (fun j hj=>hj) hE2) _ hV
  ·by_cases hpq':p<q
   ·refine o8.Q9 (Mem.aA (fun j ⟨y,h1,h2⟩=>?_) fun j hj=>(hnames 0 (by omega) j hj).1) _ (D.valsl p hpq')
    exact hstι.has j ⟨y,Lsub j y h1 h2,h2⟩
   ·have:=D.vals (p-q) (by have:=hall (p-q) (by omega);exact this)
    rw [show q+(p-q)=p from by omega] at this
    refine o8.Q9 (Mem.aA (fun j hj=>?_) fun j hj=>(hnames _ (by omega) j hj).1) _ this
    have h2:=F.qQ D.head D.base.rm.ok (L:=Lp ord listed) (L':=Lp ord listed) (d:=p-q+1) (d':=d) (by omega) (by omega) (fun _ _ h=>h) hj
    rw [hmem] at h2
    exact hstι.has j h2
end
end Go.AM
namespace Go.AM
open Go
section
variable {P:Program}{G:Mem}{slots:List Nat}{nt:Nat}{cf:L8}{b:Nat}{ops:Array Oper}{ord:List Nat}{X:Nat→Nat×Inst}{S:Nat→DS}
variable {ι0 ι:Inj}{m0:Mem}{w0 w:World}{a0 a:Act}{listed:Array Bool}{q:Nat}
theorem pK {A B:Array Value}(hs:A.size=B.size){t:Nat}(h:A.getD t undef=B.getD t undef):A[t]?=B[t]?:=by
 by_cases ht:t<A.size
 ·have ht':t<B.size:=by omega
  rw [Array.getElem?_eq_getElem ht,Array.getElem?_eq_getElem ht']
  simp only [Array.getD,ht,ht',dif_pos] at h
  rw [show A.getInternal t ht=A[t] from rfl,show B.getInternal t ht'=B[t] from rfl] at h
  rw [h]
 ·rw [Array.getElem?_eq_none (Nat.le_of_not_lt ht),Array.getElem?_eq_none (by omega)]
theorem FH {a a':Act}{o:Oper}(h:∀t∈sS ops o,a.tmps.getD t undef=a'.tmps.getD t undef):∀x∈o.op.operands,a.eval x=a'.eval x:=by
 intro x hx
 cases x with
 | tmp t=>exact h t (List.mem_append_left _ (List.mem_filterMap.2 ⟨.tmp t,by simpa using hx,rfl⟩))
 | _=>rfl
theorem AL {A B:Array Value}(hs:A.size=B.size){o:Oper}(h:∀t∈sS ops o,A.getD t undef=B.getD t undef):Region.wanted o (yielded ops A)=Region.wanted o (yielded ops B):=by
 unfold Region.wanted
 cases hg:o.guard with
 | none=>rfl
 | some p=>
  obtain⟨g,want⟩:=p
  have:yielded ops A g=yielded ops B g:=by
   unfold yielded
   cases ht:(ops[g]?).bind (·.dst) with
   | none=>rfl
   | some t=>
    have:=pK hs (h t (List.mem_append_right _ (by simp [hg,ht])))
    simp [this]
  simp only [this]
theorem Ni (o:POp):nH id o=o:=by cases o<;>simp [nH]
theorem Nj (o:ROp):IJ id o=o:=by cases o<;>simp [IJ]
theorem Nk (o:LOp):KL id o=o:=by cases o<;>simp [KL]
theorem Nl (o:EOp):CG id o=o:=by cases o<;>simp [CG]
theorem fI {op:Op}{done:List (Option Nat)}{ao:AOp}(h:cOp P slots done op=some ao):∀cs bl,op≠.select cs bl:=by
 rintro cs bl rfl;cases h
theorem awh {ls ls':List o8}{env env':T o8}{o:POp}(h:∀x∈jo o,Sm id ls env ls' env' x):trP o ls' env'=trP o ls env:=by
 have:=xB h;rwa [Ni] at this
theorem awi {ls ls':List o8}{env env':T o8}{o:ROp}(h:∀x∈IG o,Sm id ls env ls' env' x)(m:Mem):trR o ls' env' m=trR o ls env m:=by
 have:=xC h m;rwa [Nj] at this
theorem awj {ls ls':List o8}{env env':T o8}{o:LOp}(h:∀x∈opsL o,Sm id ls env ls' env' x)(i:Nat):trL o ls' env' i=trL o ls env i:=by
 have:=xD h i;rwa [Nk] at this
theorem awk {ls ls':List o8}{env env':T o8}{o:EOp}(h:∀x∈opsE o,Sm id ls env ls' env' x)(cf:L8)(m:Mem):trE o cf ls' env' m=trE o cf ls env m:=by
 have:=xE h cf m;rwa [Nl] at this
theorem AO {a a':Act}{o:Oper}(h:execOp a.eval o=execOp a'.eval o){w:World}{R:Ending→World→Prop}(hd:jm P a'.eval o w R):jm P a.eval o w R:=by
 unfold jm at *;rw [h];exact hd
theorem qR.op {r:Option Nat}(hcf:tK P G cf)(F:Fixed P slots nt cf b ops ord X S)(hb:m0.lim≤b)(hen:aL ι0 (m0.nm ι0) slots (S 0).env a0.tmps)(hnt:nt≤a0.tmps.size)(D:qR P G b ops ord X S ι0 m0 w0 a0 listed a w ι q)
  {i:Nat} {o:Oper} (ho:ops[i]?=some o) (hun:listed.getD i false=false) (hr:∀e∈o.after,Region.binds .any e=true→listed.getD e.on false=true) {K:Act→World→Prop} {Q:Exit→Act→World→Prop}
  (hK:∀a' w' ι' q',qR P G b ops ord X S ι0 m0 w0 a0 (listed.setIfInBounds i true) a' w' ι' q'→K a' w'):wpOpIn (FR r) 0 P ops Q i K a w:=by
 have hi:i<listed.size:=by rw [D.len];exact (Array.getElem?_eq_some_iff.1 ho).1
 obtain⟨p,hp⟩:=List.getElem?_of_mem (F.all i (Array.getElem?_eq_some_iff.1 ho).1)
 have hpl:p<ord.length:=(List.getElem?_eq_some_iff.1 hp).1
 have hqp:q≤p:=by
  rcases Nat.lt_or_ge p q with h | h
  ·have:=D.low p h;rw [qU hp,hun] at this;cases this
  ·exact h
 obtain⟨d,rfl⟩:∃d,p=q+d:=⟨p-q,by omega⟩
 have hdep:∀j,Dep ops i j→listed.getD j false=true:=fun j hj=>hj.listed D.closed fun o' ho' e he hbnd=>by rw [ho] at ho';cases ho';exact hr e he hbnd
 obtain⟨o',ho',hop,hdst,hg⟩:=F.inst (q+d) i hp
 rw [ho] at ho';cases ho'
 have s:=D.st F hb hen hnt d (by omega) (q+d) (Nat.le_refl _)
 let af:Act:={tmps:=tmM ops ord S listed ι a0 (q+d),defers:=[]}
 have hlook:∀t∈sS ops o,a.tmps.getD t undef=af.tmps.getD t undef:=fun t ht=>D.looks F hnt hp ho hun hdep ht
 have hsz:a.tmps.size=af.tmps.size:=by rw [D.sz];exact kP _ |>.symm
 have hwant:=AL hsz hlook
 have hwg:=jQ (tmps:=af.tmps) s hg
 have hev:(∀cs bl,o.op≠.select cs bl)→execOp a.eval o=execOp af.eval o:=fun hs=>execOp_congr o hs (FH hlook)
 have hLs:=FE (listed:=listed) F.nodup hp hi
 have hLmono:∀r,Lp ord listed r=true→Lp ord (listed.setIfInBounds i true) r=true:=fun r hL=>by rw [hLs];split<;>simp [hL]
 have hsm:∀y∈TV (X (q+d)).2.op,Sm id (S (q+d)).ls (S (q+d)).env (lsM ord S listed (q+d)) (IQ ord X S listed (q+d)) y:=fun y hy=>D.opd F hpl hdep (F.opd _ i hp y hy)
 have hbaseLay:=D.lay F hb d (by omega)
 have LFd:=F.lay D.head D.base.rm.ok (Lp ord listed) d (by omega)
 obtain⟨v,_,_,hs⟩:=F.step (q+d) hpl
 have hVof:Vof S (q+d)=v:=by simp [Vof,‹(S (q+d+1)).ls=_›]
 have hguard:∀y wt,(X (q+d)).2.guard=some (y,wt)→trO y (lsM ord S listed (q+d)) (IQ ord X S listed (q+d))=trO y (S (q+d)).ls (S (q+d)).env:=fun y wt h=>D.opd F hpl hdep (F.opdg _ i y wt hp h)
 have hwanted:Region.wanted o (yielded ops a.tmps)=Aq (X (q+d)).2.guard (S (q+d)).ls (S (q+d)).env:=by
  rw [hwant,hwg]
  cases hgd:(X (q+d)).2.guard with
  | none=>rfl
  | some z=>obtain⟨y,wt⟩:=z;simp only [Aq];rw [hguard y wt hgd]
 have hle1:((dI b X S q (Lp ord listed) d).nm ι).le ((dI b X S q (Lp ord (listed.setIfInBounds i true)) (d+1)).nm ι):=
  Mem.aA (fun j hj=>F.qQ D.head D.base.rm.ok (by omega) (by omega) (fun k _ h=>hLmono _ h) hj) fun _ _=>rfl
 have still:isE (X (q+d)).2=false→iH b X S (q+d)=none→(Vof S (q+d)).lt ((dI b X S q (Lp ord listed) d).nm ι)→K (a.put o.dst (I4 ι (Vof S (q+d)))) w:=by
  intro hE hmk hlt
  exact hK _ _ ι q (D.quiet F hnt hp ho hun hr hE (ι':=ι) (w':=w) (Step.refl D.base.rm) (fun _ _=>rfl) (fun _ _=>rfl) (fun id blk h=>by rw [hmk] at h;cases h) (o8.Q9 hle1 _ hlt))
 show wpOpIn (FR r) 0 P ops Q i K a w
 unfold wpOpIn
 simp only [ho]
 rw [hwanted]
 have skip:isE (X (q+d)).2=false→iH b X S (q+d)=none→Vof S (q+d)=.undef→(∀f,o.about P w a.eval=some f→(FR r).fn f)∧K (a.put o.dst undef) w:=by
  intro hE hmk hv
  refine⟨fun _ _=>trivial,?_⟩
  have:=still hE hmk (by rw [hv];trivial)
  rw [hv,fH] at this
  exact this
 have hcop:∀{ao},(X (q+d)).2.op=ao→ao≠.e .bad→cOp P slots (eU ops ord (q+d)) o.op=some ao:=by
  intro ao h1 h2
  rw [hop] at h1
  unfold rQ at h1
  split at h1
  ·rename_i a' ha;rw [ha,h1]
  ·exact absurd h1.symm h2
 cases hx:(X (q+d)).2.op with
 | p po=>
  rw [hx] at hs hsm
  obtain⟨h1,_,_⟩:=hs
  have hE:isE (X (q+d)).2=false:=by simp [isE,hx]
  have hmk:iH b X S (q+d)=none:=by simp [iH,hx]
  have hc:=hcop hx (by simp)
  have run:trP po (S (q+d)).ls (S (q+d)).env=some v→o.wpIn (FR r) 0 P a w K Q:=by
   intro h1
   rw [← awh hsm] at h1
   obtain⟨g1,g2⟩:=kH (a:=af) s hc h1
   refine dx (jS hc (fun _ _ h=>by cases h)) (R:=fun u w'=>u=I4 ι v∧w'=w) ?_ ?_
   ·exact Q8 (by rw [hev (fI hc)];exact g2 o rfl w) ⟨rfl,rfl⟩
   ·rintro u w' ⟨rfl,rfl⟩
    have:=still hE hmk (by rw [hVof];exact g1)
    rwa [hVof] at this
  cases hgd:(X (q+d)).2.guard with
  | none=>rw [hgd] at h1;exact run h1
  | some z=>
   obtain⟨y,wt⟩:=z
   rw [hgd] at h1
   have h1:bi (isB wt (trO y (S (q+d)).ls (S (q+d)).env)) (trP po (S (q+d)).ls (S (q+d)).env) (some .undef)=some v:=h1
   rw [show Aq (some (y,wt)) (S (q+d)).ls (S (q+d)).env=isB wt (trO y (S (q+d)).ls (S (q+d)).env) from rfl]
   cases hB:isB wt (trO y (S (q+d)).ls (S (q+d)).env) with
   | true=>rw [hB] at h1;exact run h1
   | false=>rw [hB] at h1;cases h1;exact skip hE hmk hVof
 | r ro=>
  rw [hx] at hs hsm
  obtain⟨h1,h2,_,_⟩:=hs
  have hE:isE (X (q+d)).2=false:=by simp [isE,hx]
  have hmk:iH b X S (q+d)=none:=by simp [iH,hx]
  have hc:=hcop hx (by simp)
  obtain⟨rr,hr1,hr2⟩:=F.gs D.head d (by omega)
  have hrc:rr≤(X (q+d)).1:=by
   rw [F.cnt (q+d) i ro hp hx]
   refine mX _ _ _ fun k hk=>?_
   obtain⟨pos,e,g1,g2,g3,g4,g5⟩:=hr2 k hk
   refine⟨e,g5,?_⟩
   cases hm:mOf (masks ops.toList) i e with
   | false=>rfl
   | true=>
    have h3:=hdep e (iG ops i e hm)
    have h4:=D.high pos g1 g4
    rw [qU g3,h3] at h4;cases h4
  have hread:Eu (X (q+d)).2.guard (trR ro) (S (q+d)).ls (S (q+d)).env (S q).m=some v:=by
   cases rr with
   | zero=>
    have:hd (S (q+d)).m (S (q+d)).gs=(S q).m:=by
     cases hgs:(S (q+d)).gs with
     | nil=>rw [hgs] at hr1;simp at hr1
     | cons g gs=>rw [hgs] at hr1;simp at hr1;exact hr1
    rw [this] at h1;exact h1
   | succ rr=>
    obtain⟨g,g1,g2⟩:=qO h2 rr (by omega)
    have:g=(S q).m:=by
     cases hgs:(S (q+d)).gs with
     | nil=>rw [hgs] at hr1;simp at hr1
     | cons g' gs=>
      rw [hgs] at hr1 g1
      have g1:gs[rr]?=some g:=g1
      simp at hr1;rw [g1] at hr1;exact Option.some.inj hr1
    rw [this] at g2;exact g2
  have run:trR ro (S (q+d)).ls (S (q+d)).env (S q).m=some v→o.wpIn (FR r) 0 P a w K Q:=by
   intro h1
   rw [← awi hsm] at h1
   obtain⟨g1,g2⟩:=kI (a:=af) s hbaseLay.rm (pU hc) (Nh LFd.sub h1)
   refine dx (jS hc (fun _ _ h=>by cases h)) (R:=fun u w'=>u=I4 ι v∧w'=w) ?_ ?_
   ·exact Q8 (by rw [hev (fI hc)];exact g2 o rfl) ⟨rfl,rfl⟩
   ·rintro u w' ⟨rfl,rfl⟩
    have:=still hE hmk (by rw [hVof];exact g1)
    rwa [hVof] at this
  cases hgd:(X (q+d)).2.guard with
  | none=>rw [hgd] at hread;exact run hread
  | some z=>
   obtain⟨y,wt⟩:=z
   rw [hgd] at hread
   have hread:bi (isB wt (trO y (S (q+d)).ls (S (q+d)).env)) (trR ro (S (q+d)).ls (S (q+d)).env (S q).m) (some .undef)=some v:=hread
   rw [show Aq (some (y,wt)) (S (q+d)).ls (S (q+d)).env=isB wt (trO y (S (q+d)).ls (S (q+d)).env) from rfl]
   cases hB:isB wt (trO y (S (q+d)).ls (S (q+d)).env) with
   | true=>rw [hB] at hread;exact run hread
   | false=>rw [hB] at hread;cases hread;exact skip hE hmk hVof
 | a lo=>
  rw [hx] at hs hsm
  obtain⟨res,h1,hv,_,_,_,_⟩:=hs
  have hE:isE (X (q+d)).2=false:=by simp [isE,hx]
  have hc:=hcop hx (by simp)
  have hmk0:res.2=none→iH b X S (q+d)=none:=fun h=>by
   obtain⟨u,bl⟩:=res
   obtain rfl:bl=none:=h
   simp [iH,hx,h1]
  have run:trL lo (S (q+d)).ls (S (q+d)).env (b+(X (q+d)).1)=some res→o.wpIn (FR r) 0 P a w K Q:=by
   intro h3
   rw [← awj hsm] at h3
   have hnot:∀bl,res.2=some bl→¬ ((dI b X S q (Lp ord listed) d).nm ι) (b+(X (q+d)).1):=by
    rintro bl hbl ⟨y,g1,g2⟩
    have hm:iH b X S (q+d)=some (b+(X (q+d)).1,bl):=by
     obtain⟨u,bl'⟩:=res
     obtain rfl:bl'=some bl:=hbl
     simp [iH,hx,h1]
    rw [LFd.later (q+d) _ bl (Nat.le_refl _) hpl hm] at g1
    cases g1;cases g2
   obtain⟨u,bl⟩:=res
   cases bl with
   | none=>
    have hmk:=hmk0 rfl
    have hs':=make_none (a:=af) s hbaseLay.rm hc h3 w
    refine dx (jS hc (fun _ _ h=>by cases h)) (R:=fun x w'=>x=I4 ι u∧w'=w) ?_ ?_
    ·exact Q8 (by rw [hev (fI hc)];exact hs'.2 o rfl w) ⟨rfl,rfl⟩
    ·rintro x w' ⟨rfl,rfl⟩
     have:=still hE hmk (by rw [hVof,hv];exact hs'.1)
     rwa [hVof,hv] at this
   | some bl=>
    have hm:iH b X S (q+d)=some (b+(X (q+d)).1,bl):=by simp [iH,hx,h1]
    have hn:=hnot bl rfl
    have hs':=kL (a:=af) s (fun _ _=>rfl) hn (pV hc) h3 w
    have hid:∀l:Loc,∀j,(∀blk,iH b X S (q+d)≠some (j,blk))→(ι.upd (b+(X (q+d)).1) l) j=ι j:=fun l j hj=>ι.upd_ne l fun e=>hj bl (by rw [e];exact hm)
    have hbn:¬ (S q).m.has (b+(X (q+d)).1):=fun ⟨y,g1,g2⟩=>hn ⟨y,LFd.sub _ y g1 g2,g2⟩
    have hupd:∀l:Loc,∀j,(dI b X S q (Lp ord listed) d).has j→(ι.upd (b+(X (q+d)).1) l) j=ι j:=fun l j hj=>ι.upd_ne l fun e=>hn (e▸hj)
    have hle2:∀l:Loc,((dI b X S q (Lp ord listed) d).nm ι).le ((dI b X S q (Lp ord (listed.setIfInBounds i true)) (d+1)).nm (ι.upd (b+(X (q+d)).1) l)):=fun l=>
     Mem.aA (fun j hj=>F.qQ D.head D.base.rm.ok (by omega) (by omega) (fun k _ h=>hLmono _ h) hj) (hupd l)
    have hself:gI bl=false→(dI b X S q (Lp ord (listed.setIfInBounds i true)) (d+1)).has (b+(X (q+d)).1):=fun hvb=>
     ⟨bl,(F.lay D.head D.base.rm.ok _ (d+1) (by omega)).laid d _ bl (by omega) (by rw [hLs,if_pos rfl]) hm,hvb⟩
    have hcapl:∀l:Loc,((dI b X S q (Lp ord (listed.setIfInBounds i true)) (d+1)).nm (ι.upd (b+(X (q+d)).1) l)).cap (b+(X (q+d)).1)=l.cap:=fun l=>by
     show ((ι.upd (b+(X (q+d)).1) l) (b+(X (q+d)).1)).cap=l.cap
     rw [Inj.U0]
    cases hs' with
    | made l obj w' hmk=>
     obtain⟨g1,g2⟩:=hmk.blk _ (hle2 l) (hself hmk.live) (hcapl l)
     refine dx (jS hc (fun _ _ h=>by cases h)) (R:=fun x w''=>x=I4 (ι.upd (b+(X (q+d)).1) l) u∧w''=w') ?_ ?_
     ·exact Q8 (by rw [hev (fI hc)];exact hmk.run o rfl) ⟨rfl,rfl⟩
     ·rintro x w'' ⟨rfl,rfl⟩
      have:=D.quiet F hnt hp ho hun hr hE (ι':=ι.upd (b+(X (q+d)).1) l) (w':=w'') (Step.push D.base.rm hmk.grew fun j hj=>ι.upd_ne l fun e=>hbn (e▸hj))
       (fun k hk=>by rw [hmk.grew.heap];exact (Array.getElem?_push_lt hk).trans (Array.getElem?_eq_getElem hk).symm) (hid l) (fun id blk hm'=>?_) (by rw [hVof,hv];exact g2)
      ·rw [hVof,hv] at this
       exact hK _ _ _ q this
      ·rw [hm] at hm';cases hm'
       rw [Inj.U0]
       refine⟨by rw [hmk.grew.heap];exact g1,hmk.live,fun _=>⟨⟨hmk.loc,hmk.spot⟩,fun c e fz hcc=>?_⟩⟩
       rw [hmk.grew.heap,hmk.loc,dn] at hcc
       exact hmk.free c e fz (Option.some.inj hcc)
    | @tail _ pp l hpn hbb hgv hlt=>
     refine dx (jS hc (fun _ _ h=>by cases h)) (R:=fun x w''=>x=I4 (ι.upd (b+(X (q+d)).1) l) u∧w''=w) ?_ ?_
     ·exact Q8 (by rw [hev (fI hc)];exact hgv o rfl w) ⟨rfl,rfl⟩
     ·rintro x w'' ⟨rfl,rfl⟩
      have:=D.quiet F hnt hp ho hun hr hE (ι':=ι.upd (b+(X (q+d)).1) l) (w':=w'') ((Step.refl D.base.rm).rename fun j hj=>ι.upd_ne l fun e=>hbn (e▸hj))
       (fun k hk=>rfl) (hid l) (fun id blk hm'=>?_) (by rw [hVof,hv];exact hlt _ (hle2 l) (hself rfl) (hcapl l))
      ·rw [hVof,hv] at this
       exact hK _ _ _ q this
      ·rw [hm] at hm';cases hm'
       rw [Inj.U0]
       refine⟨⟨(hle2 l pp hpn).1,?_⟩,rfl,fun hl=>by cases hl⟩
       rw [hupd l pp hpn];exact hbb
  cases hgd:(X (q+d)).2.guard with
  | none=>rw [hgd] at h1;exact run h1
  | some z=>
   obtain⟨y,wt⟩:=z
   have h1':=h1
   rw [hgd] at h1'
   have h1':bi (isB wt (trO y (S (q+d)).ls (S (q+d)).env)) (trL lo (S (q+d)).ls (S (q+d)).env (b+(X (q+d)).1)) (some (.undef,none))=some res:=h1'
   rw [show Aq (some (y,wt)) (S (q+d)).ls (S (q+d)).env=isB wt (trO y (S (q+d)).ls (S (q+d)).env) from rfl]
   cases hB:isB wt (trO y (S (q+d)).ls (S (q+d)).env) with
   | true=>rw [hB] at h1';exact run h1'
   | false=>
    rw [hB] at h1';cases h1'
    exact skip hE (hmk0 rfl) (by rw [hVof,hv])
 | e eo=>
  rw [hx] at hs hsm
  obtain⟨h1,_,hnp⟩:=hs
  have hE:isE (X (q+d)).2=true:=by simp [isE,hx]
  have hall:∀k,k<d→Lp ord listed (q+k)=true:=fun k hk=>by
   have hkl:q+k<ord.length:=by omega
   have:=hdep _ (F.eff (q+d) i hp hE (q+k) _ (by omega) (List.getElem?_eq_getElem hkl))
   rw [qU (List.getElem?_eq_getElem hkl)];exact this
  have hnoE:∀k,k<d→isE (X (q+k)).2=false:=fun k hk=>by
   cases he:isE (X (q+k)).2 with
   | false=>rfl
   | true=>have h1:=D.high (q+k) (by omega) he;rw [hall k hk] at h1;cases h1
  have hmem:=F.lay_all (L:=Lp ord listed) d (by omega) fun k hk=>⟨hall k hk,hnoE k hk⟩
  rw [hmem] at s hbaseLay
  have fin:∀ι' w',Step P G ι (S (q+d)).m w ι' (S (q+d+1)).m w'→v.lt ((S (q+d+1)).m.nm ι')→K (a.put o.dst (I4 ι' v)) w':=by
   intro ι' w' hst hlt
   obtain⟨ι'',g1,g2⟩:=D.effect F hb hnt hp ho hun hr hE hall hst (by rw [hVof];exact hlt)
   rw [g1,hVof] at g2
   exact hK _ _ _ _ g2
  have run:trE eo cf (S (q+d)).ls (S (q+d)).env (S (q+d)).m=some [⟨v,(S (q+d+1)).m⟩]→o.wpIn (FR r) 0 P a w K Q:=by
   intro h1
   have hnb:AOp.e eo≠.e .bad:=by
    intro h;cases h
    cases h1
   have hc:=hcop hx hnb
   rw [← awk hsm] at h1
   have:=xw (a:=af) hcf s hbaseLay.rm hc h1 o rfl
   refine jR (BM (cf:=cf) hc h1) (AO (hev (fI hc)) this) ?_ ?_ fun _=>mR
   ·rintro u w' (⟨_,hu,x,hxm,ι',g1,g2,rfl⟩ | ⟨_,_,_,_,_,_,_,h⟩)
    ·cases hu
     obtain rfl:=List.mem_singleton.1 hxm
     exact fin ι' w' g1 g2
    ·cases h
   ·rintro c w' (⟨_,hu,_⟩ | ⟨x,hxm,y,_,hxy,_⟩)
    ·cases hu
    ·obtain rfl:=List.mem_singleton.1 hxm
     exact absurd ⟨y,hxy⟩ hnp
  cases hgd:(X (q+d)).2.guard with
  | none=>rw [hgd] at h1;exact run h1
  | some z=>
   obtain⟨y,wt⟩:=z
   rw [hgd] at h1
   have h1:bi (isB wt (trO y (S (q+d)).ls (S (q+d)).env)) (trE eo cf (S (q+d)).ls (S (q+d)).env (S (q+d)).m) (one .undef (S (q+d)).m)=some [⟨v,(S (q+d+1)).m⟩]:=h1
   rw [show Aq (some (y,wt)) (S (q+d)).ls (S (q+d)).env=isB wt (trO y (S (q+d)).ls (S (q+d)).env) from rfl]
   cases hB:isB wt (trO y (S (q+d)).ls (S (q+d)).env) with
   | true=>rw [hB] at h1;exact run h1
   | false=>
    rw [hB] at h1
    have h1:[(⟨.undef,(S (q+d)).m⟩:VM)]=[⟨v,(S (q+d+1)).m⟩]:=Option.some.inj h1
    simp only [List.cons.injEq,VM.mk.injEq,and_true] at h1
    obtain⟨hv,hm⟩:=h1
    refine⟨fun _ _=>trivial,?_⟩
    have:=fin ι w (by rw [← hm];exact Step.refl hbaseLay.rm) (by rw [← hv];trivial)
    rw [← hv,fH] at this
    exact this
where
 make_none {P:Program} {G:Mem} {ι:Inj} {m:Mem} {w0:World} {slots:List Nat} {done:List (Option Nat)} {ls:List o8} {env:T o8} {a:Act} (s:St P ι (m.nm ι) slots done ls env a.tmps) (hm:RM P G ι m w0.heap) {op:Op} {lo:LOp} (h:cOp P slots done op=some (.a lo)) {u:o8} {nid:Nat}
   (hv:trL lo ls env nid=some (u,none)) (w:World):u.lt (m.nm ι)∧Gives P a.eval op (I4 ι u):=by
  have hn:¬ (m.nm ι) m.next:=fun ⟨_,h3,_⟩=>Nat.lt_irrefl _ (Mem.L9 hm.ok h3)
  have hv':=sl_place hv m.next
  have hs:=kL (a:=a) s (fun _ _=>rfl) hn (pV h) hv' w
  cases hs with
  | none h1 h2=>exact⟨h1,h2⟩
 sl_place {lo:LOp} {ls:List o8} {env:T o8} {u:o8} {nid:Nat} (hv:trL lo ls env nid=some (u,none)) (nid':Nat):trL lo ls env nid'=some (u,none):=by
  cases lo with
  | alloc z=>cases hv
  | box x=>cases hv
  | mkMap=>cases hv
  | buildSlice es len z ps=>obtain⟨c,h1,h⟩:=J7 hv;obtain⟨c2,h2,h⟩:=J7 h;cases h
  | mkSlice es by' z l c=>
   obtain⟨_,_,_,h⟩:=bJ hv
   obtain⟨_,_,_,h⟩:=bJ h
   obtain⟨_,h⟩:=K8 h
   obtain⟨_,h⟩:=K8 h
   obtain⟨_,h⟩:=K8 h
   cases h
  | strBytes x=>obtain⟨_,_,h⟩:=jG hv;obtain⟨_,_,h⟩:=J7 h;cases h
  | sl es x lo hi=>
   have key:∀l h,O7 nid es (trO x ls env) l h=some (u,none)→O7 nid' es (trO x ls env) l h=some (u,none):=by
    intro l h hs
    generalize trO x ls env=X at hs
    cases X with
    | nilSlice=>exact hs
    | slice=>exact hs
    | sliceU id off len es'=>
     have hu:∀hh,O7.unk nid es l id off len es' hh=some (u,none)→O7.unk nid' es l id off len es' hh=some (u,none):=by
      intro hh hs
      unfold O7.unk at hs ⊢
      obtain⟨q1,hs⟩:=K8 hs
      obtain⟨q2,hs⟩:=K8 hs
      obtain⟨q3,hs⟩:=K8 hs
      rw [q1,q2,q3]
      simp only [ay]
      cases hb:Nat.blt l len with
      | true=>rw [hb] at hs;exact hs
      | false=>
       rw [hb] at hs
       simp only [Y8] at hs ⊢
       cases hz:Nat.beq l 0 with
       | true=>rw [hz] at hs;exact hs
       | false=>rw [hz] at hs;cases hs
     cases h with
     | none=>exact hu len hs
     | some hh=>exact hu hh hs
    | _=>exact hs
   have hv:cB (nE lo) 0 ls env (fun l=>Option.rec (O7 nid es (trO x ls env) l none) (fun h=>kT (h ls env) fun h=>O7 nid es (trO x ls env) l (some h)) (nE hi))=some (u,none):=hv
   show cB (nE lo) 0 ls env (fun l=>Option.rec (O7 nid' es (trO x ls env) l none) (fun h=>kT (h ls env) fun h=>O7 nid' es (trO x ls env) l (some h)) (nE hi))=some (u,none)
   have inner:∀l,(Option.rec (O7 nid es (trO x ls env) l none) (fun h=>kT (h ls env) fun h=>O7 nid es (trO x ls env) l (some h)) (nE hi):LR)=some (u,none)→
     (Option.rec (O7 nid' es (trO x ls env) l none) (fun h=>kT (h ls env) fun h=>O7 nid' es (trO x ls env) l (some h)) (nE hi):LR)=some (u,none):=by
    intro l h
    cases ht:nE hi with
    | none=>rw [ht] at h;exact key l none h
    | some g=>
     rw [ht] at h
     obtain⟨k,n,h1,h2⟩:=bJ h
     show kT (g ls env) (fun h=>O7 nid' es (trO x ls env) l (some h))=_
     rw [h1];exact key l (some n) h2
   cases ht:nE lo with
   | none=>rw [ht] at hv;exact inner 0 hv
   | some g=>
    rw [ht] at hv
    obtain⟨k,n,h1,h2⟩:=bJ hv
    show kT (g ls env) _=_
    rw [h1];exact inner n h2
end
end Go.AM
