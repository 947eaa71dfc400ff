/- A part of an evaluator for the model, proved sound: what it answers holds of the model; it speaks of every program, no condition. -/
import Derived.Test.YtcnimimffiiimaaGreatDoorPA2
import Derived.OrdersIn
set_option linter.all false
namespace Go.AM
open Go
noncomputable section
section
variable {f:N9->N9}{ls ls':List d9}{env env':T d9}
def Sm (f:N9->N9)(ls:List d9)(env:T d9)(ls':List d9)(env':T d9)(x:N9):Prop:=D8 (f x) ls' env'=D8 x ls env
theorem pO {l:List N9}(h:∀x∈l,Sm f ls env ls' env' x):evs (dU (l.map f)) ls' env'=evs (dU l) ls env:=by rw [evs_eq',evs_eq'];rw [aeP];exact ag5 h
where
 evs_eq' {l:List N9} {ls:List d9} {env:T d9}:evs (dU l) ls env=l.map λx=>D8 x ls env:=by
  induction l with
  | nil=>rfl
  | cons x l ih=>show D8 x ls env::evs (dU l) ls env=_;rw [ih];rfl
theorem FI {ps:List (Nat×Nat×N9)}(h:∀x∈ps.map (·.2.2),Sm f ls env ls' env' x)(cs:List d9):
  lay (yP (ps.map λp=>(p.1,p.2.1,f p.2.2))) ls' env' cs=lay (yP ps) ls env cs:=by
 induction ps generalizing cs with
 | nil=>rfl
 | cons p ps ih=>
  have a:D8 (f p.2.2) ls' env'=D8 p.2.2 ls env:=h _ (by simp);show bi (Nat.beq (len' (D8 (f p.2.2) ls' env').cells) p.2.1) (bi (Nat.ble (Nat.add p.1 p.2.1) (len' cs)) (lay (yP (ps.map λp=>(p.1,p.2.1,f p.2.2))) ls' env' (jY p.1 (D8 (f p.2.2) ls' env').cells cs)) none) none =
   bi (Nat.beq (len' (D8 p.2.2 ls env).cells) p.2.1) (bi (Nat.ble (Nat.add p.1 p.2.1) (len' cs)) (lay (yP ps) ls env (jY p.1 (D8 p.2.2 ls env).cells cs)) none) none
  rw [a,ih (λx b=>h x (Y1 _ b))]
theorem fG {β:Type}{o:Option N9}(h:∀x∈o.toList,Sm f ls env ls' env' x)(d:Nat)(k:Nat->Option β):dJ (jC (o.map f)) d ls' env' k=dJ (jC o) d ls env k:=by
 cases o with
 | none=>rfl
 | some x=>have a:D8 (f x) ls' env'=D8 x ls env:=h x (by simp);show iM (D8 (f x) ls' env') k=iM (D8 x ls env) k;rw [a]
theorem FJ {o:Sn}(h:∀x∈eH o,Sm f ls env ls' env' x):lX (jr f o) ls' env'=lX o ls env:=by
 have e:∀x∈eH o,D8 (f x) ls' env'=D8 x ls env:=h;cases o with
 | build z ps=>show ob (lay (yP (ps.map λp=>(p.1,p.2.1,f p.2.2))) ls' env' z) _=ob (lay (yP ps) ls env z) _;rw [FI h]
 | mkFunc fn a b=>show some (d9.func fn (evs (dU (a.map f)) ls' env') (evs (dU (b.map f)) ls' env'))=some (d9.func fn (evs (dU a) ls env) (evs (dU b) ls env));rw [pO λx l=>h x (abX _ l),pO λx l=>h x (ac0 _ l)]
 | slStr x lo hi=>have d:=e x (by simp [eH]);have g:∀y∈lo.toList,Sm f ls env ls' env' y:=λy j=>h y (Y1 _ (abX _ j));have m:∀y∈hi.toList,Sm f ls env ls' env' y:=λy j=>h y (Y1 _ (ac0 _ j));simp only [jr,lX,SQ,d,fG g,fG m]
 | slArr es n x lo hi=>have d:=e x (by simp [eH]);have g:∀y∈lo.toList,Sm f ls env ls' env' y:=λy j=>h y (Y1 _ (abX _ j));have m:∀y∈hi.toList,Sm f ls env ls' env' y:=λy j=>h y (Y1 _ (ac0 _ j));simp only [jr,lX,SS,d,fG g,fG m]
 | mm mx x xs=>show wY mx (evs (dU (xs.map f)) ls' env') (D8 (f x) ls' env')=wY mx (evs (dU xs) ls env) (D8 x ls env);rw [pO λx l=>h x (Y1 _ l),e x (by simp [eH])]
 | ib op x y=>have d:=e x (by simp [eH]);have g:=e y (by simp [eH]);cases op<;>simp only [jr,lX,I5,aaV,aaW,d,g]
 | eq neg k x y=>have d:=e x (by simp [eH]);have g:=e y (by simp [eH]);cases neg<;>simp only [jr,lX,ZT,pNe,d,g]
 | fld off size x=>have d:=e x (by simp [eH]);cases size<;>simp only [jr,lX,SV,SX,d]
 | iArr es n size x i=>have d:=e x (by simp [eH]);have g:=e i (by simp [eH]);cases size<;>simp only [jr,lX,GR,SY,d,g]
 | pick a b c=>simp only [jr,lX,bZ,e a (by simp [eH]),e b (by simp [eH]),e c (by simp [eH])]
 | iAddr es x i=>simp only [jr,lX,O9,e x (by simp [eH]),e i (by simp [eH])]
 | iAddrArr es n x i=>simp only [jr,lX,yO,e x (by simp [eH]),e i (by simp [eH])]
 | iStr x i=>simp only [jr,lX,rO,e x (by simp [eH]),e i (by simp [eH])]
 | mov x=>simp only [jr,lX,J8,e x (by simp [eH])]
 | nilCheck x=>simp only [jr,lX,bH,e x (by simp [eH])]
 | not x=>simp only [jr,lX,MQ,e x (by simp [eH])]
 | neg x=>simp only [jr,lX,yN,e x (by simp [eH])]
 | inv x=>simp only [jr,lX,aaX,e x (by simp [eH])]
 | conv k x=>simp only [jr,lX,JE,e x (by simp [eH])]
 | mkIface t x=>simp only [jr,lX,GQ,e x (by simp [eH])]
 | fAddr o x=>simp only [jr,lX,H9,e x (by simp [eH])]
 | ext x i=>simp only [jr,lX,pExt,e x (by simp [eH])]
 | len x=>simp only [jr,lX,vN,e x (by simp [eH])]
 | lenS x=>simp only [jr,lX,BP,e x (by simp [eH])]
 | cap x=>simp only [jr,lX,aaY,e x (by simp [eH])]
 | assert t z ok x=>simp only [jr,lX,OC,e x (by simp [eH])]
theorem FK {o:MO}(h:∀x∈wS o,Sm f ls env ls' env' x)(m:Mem):qo (yR f o) ls' env' m=qo o ls env m:=by
 have e:∀x∈wS o,D8 (f x) ls' env'=D8 x ls env:=h;cases o with
 | load size x=>cases size<;>simp only [yR,qo,eB,aD,e x (by simp [wS])]
 | look k z ok x y=>simp only [yR,qo,wZ,e x (by simp [wS]),e y (by simp [wS])]
 | lenM x=>simp only [yR,qo,ZU,e x (by simp [wS])]
 | bytesStr x=>simp only [yR,qo,dX,e x (by simp [wS])]
 | entry x=>simp only [yR,qo,qm,e x (by simp [wS])]
 | slData x=>simp only [yR,qo,GU,e x (by simp [wS])]
 | toUns x=>simp only [yR,qo,rP,e x (by simp [wS])]
 | fromUns l x=>simp only [yR,qo,jZ,e x (by simp [wS])]
theorem FL {o:Qp}(h:∀x∈opsL o,Sm f ls env ls' env' x)(nid:Nat):uS (bC f o) ls' env' nid=uS o ls env nid:=by
 have e:∀x∈opsL o,D8 (f x) ls' env'=D8 x ls env:=h;cases o with
 | alloc z=>rfl
 | mkMap=>rfl
 | box x=>simp only [bC,uS,JG,e x (by simp [opsL])]
 | allocT t z=>rfl
 | boxT t k x=>simp only [bC,uS,ZV,e x (by simp [opsL])]
 | buildSlice es len z ps=>show ob (lay (yP (ps.map λp=>(p.1,p.2.1,f p.2.2))) ls' env' (Q0 z len)) _=ob (lay (yP ps) ls env (Q0 z len)) _;rw [FI h]
 | mkSlice es b z l c=>simp only [bC,uS,JH,e l (by simp [opsL]),e c (by simp [opsL])]
 | strBytes x=>simp only [bC,uS,Fh,e x (by simp [opsL])]
 | sl es x lo hi=>
  have a:=e x (by simp [opsL]);have d:∀y∈lo.toList,Sm f ls env ls' env' y:=λy i=>h y (Y1 _ (abX _ i));cases hi with
  | none=>show dJ (jC (lo.map f)) 0 ls' env' (λl=>J6 nid es (D8 (f x) ls' env') l none)=dJ (jC lo) 0 ls env (λl=>J6 nid es (D8 x ls env) l none);rw [fG d,a]
  | some y=>have g:=e y (by simp [opsL]);show dJ (jC (lo.map f)) 0 ls' env' (λl=>iM (D8 (f y) ls' env') λh=>J6 nid es (D8 (f x) ls' env') l (some h))=dJ (jC lo) 0 ls env (λl=>iM (D8 y ls env) λh=>J6 nid es (D8 x ls env) l (some h));rw [fG d,a,g]
theorem FM {o:Sq}(h:∀x∈opsE o,Sm f ls env ls' env' x)(cf:D7)(m:Mem):lY (ru f o) cf ls' env' m=lY o cf ls env m:=by
 have e:∀x∈opsE o,D8 (f x) ls' env'=D8 x ls env:=h;cases o with
 | store s a x=>simp only [ru,lY,K7,e a (by simp [opsE]),e x (by simp [opsE])]
 | storeAp s a x b=>simp only [ru,lY,BQ,K7,e a (by simp [opsE]),e x (by simp [opsE]),e b (by simp [opsE])]
 | mapSet k a b c=>simp only [ru,lY,E9,e a (by simp [opsE]),e b (by simp [opsE]),e c (by simp [opsE])]
 | range x=>simp only [ru,lY,mG,e x (by simp [opsE])]
 | next x=>simp only [ru,lY,zT,e x (by simp [opsE])]
 | app es zs z b s x=>cases zs<;>simp only [ru,lY,oK,ZW,e s (by simp [opsE]),e x (by simp [opsE])]
 | copy es d s=>simp only [ru,lY,Tc,e d (by simp [opsE]),e s (by simp [opsE])]
 | clear z x=>simp only [ru,lY,Td,e x (by simp [opsE])]
 | call g as=>show cf (.func g) (evs (dU (as.map f)) ls' env') m=cf (.func g) (evs (dU as) ls env) m;rw [pO (l:=as) h]
 | callv g as=>simp only [ru,lY,bV,e g (by simp [opsE]),pO λx i=>h x (Y1 _ i)]
 | bad=>rfl
 | defer f as=>rfl
 | recover=>rfl
 | panic x=>simp only [ru,lY,GY,e x (by simp [opsE])]
 | rangeS x=>simp only [ru,lY,Bq,e x (by simp [opsE])]
 | nextS x=>simp only [ru,lY,BS,e x (by simp [opsE])]
 | appB t s x=>simp only [ru,lY,JK,oK,e s (by simp [opsE]),e x (by simp [opsE])]
 | ustr t p n=>simp only [ru,lY,Te,e p (by simp [opsE]),e n (by simp [opsE])]
end
section
variable {P:Program}{G:Mem}{ι:H6}{n:Nm}{m:Mem}{w:World}{slots:List Nat}{done:List (Option Nat)}{ls:List d9}{env:T d9}{a:Act}
def FR (r:Option Nat):Fence:={Fence.wide with round:=r}
theorem jK:l7 ι .undef=undef:=by simp only [l7];rfl
theorem wm {α β:Type}(f:α->Option (List β))(a:α)(l:List α):BU f (a::l)=ob (f a) λx=>ob (BU f l) λy=>some (x++y):=rfl
theorem CS {α β:Type}{f:α->Option (List β)}:∀{l:List α} {outs:List β},BU f l=some outs->∀r∈l,∃os,f r=some os∧∀o∈os,o∈outs
 | [],_,_,r,hr=>by cases hr
 | a::l,outs,h,r,hr=>by rw [wm] at h;obtain⟨x,hx,h⟩:=z8 h;obtain⟨y,hy,h⟩:=z8 h;cases h;rcases X4.1 hr with rfl | hr;exact⟨x,hx,λo ho=>abX _ ho⟩;obtain⟨os,h1,h2⟩:=CS hy r hr;exact⟨os,h1,λo ho=>ac0 _ (h2 o ho)⟩
theorem U7 {α β:Type}{x:Option (List α)}{f:α->Option (List β)}{outs:List β}(h:bnd x f=some outs):∃l,x=some l∧∀r∈l,∃os,f r=some os∧∀o∈os,o∈outs:=by
 cases x with
 | none=>cases h
 | some l=>
  refine⟨l,rfl,?_⟩;match l,h with
  | [],_=>intro r c;cases c
  | [a],h=>intro r c;obtain rfl:=aA.1 c;exact⟨outs,h,λo d=>d⟩
  | a::b::t,h=>exact CS (l:=a::b::t) h
def OP (cf:D7)(o:wR)(ls:List d9)(env:T d9)(m:Mem):eO:=match o with
 | .p o=>ob (lX o ls env) λv=>one v m
 | .r o=>ob (qo o ls env m) λv=>one v m
 | .a o=>ob (uS o ls env m.nx) λr=>one r.1 (bL m r.2)
 | .e o=>lY o cf ls env m
def evG (cf:D7)(g:Option (N9×Bool))(o:wR)(ls:List d9)(env:T d9)(m:Mem):eO:=match g with
 | none=>OP cf o ls env m
 | some (x,w)=>bi (nJ w (D8 x ls env)) (OP cf o ls env m) (one .undef m)
theorem zo {α β b:Type}(o:Option α)(g:α->β)(f:β->Option (List b)):bnd (ob o λa=>some [g a]) f=ob o λa=>f (g a):=by cases o<;>rfl
theorem Nt {β a:Type}(b:Bool)(x y:Option (List β))(f:β->Option (List a)):bnd (bi b x y) f=bi b (bnd x f) (bnd y f):=by cases b<;>rfl
theorem TM {α β:Type}(b:Bool)(x y:Option α)(f:α->Option β):ob (bi b x y) f=bi b (ob x f) (ob y f):=by cases b<;>rfl
def vw:wR->Bool
 | .e _=>true
 | _=>false
def KD (e:Bool)(d:Option Nat)(k:RC)(cf:D7)(ls:List d9)(env:T d9)(r:VM):Option (List EM):=
 bi e (bW r.v (λx=>some [⟨env,r.m,some x,[]⟩]) (k cf (r.v::ls) (bD d r.v env) r.m)) (k cf (r.v::ls) (bD d r.v env) r.m)
theorem TN (o:wR)(d:Option Nat)(g:Option (N9×Bool))(k:RC)(cf:D7)(ls:List d9)(env:T d9)(m:Mem):
  Sw o d g k cf ls env m=bnd (evG cf g o ls env m) (KD (vw o) d k cf ls env):=by
 cases o with
 | p o=>
  have h:Sw (.p o) d g k cf ls env m=ob (Eu g (lX o) ls env) (λv=>k cf (v::ls) (bD d v env) m):=by cases d<;>rfl
  rw [h];cases g with
  | none=>exact (zo (lX o ls env) (λv=>(⟨v,m⟩:VM)) (λr=>k cf (r.v::ls) (bD d r.v env) r.m)).symm
  | some p=>obtain⟨x,b⟩:=p;show ob (bi (nJ b (D8 x ls env)) (lX o ls env) (some .undef)) _=bnd (bi (nJ b (D8 x ls env)) (ob (lX o ls env) λv=>some [⟨v,m⟩]) (one .undef m)) _;rw [Nt,TM,zo];rfl
 | r o=>
  have h:Sw (.r o) d g k cf ls env m=ob (vO g (qo o) ls env m) (λv=>k cf (v::ls) (bD d v env) m):=by cases d<;>rfl
  rw [h];cases g with
  | none=>exact (zo (qo o ls env m) (λv=>(⟨v,m⟩:VM)) (λr=>k cf (r.v::ls) (bD d r.v env) r.m)).symm
  | some p=>obtain⟨x,b⟩:=p;show ob (bi (nJ b (D8 x ls env)) (qo o ls env m) (some .undef)) _=bnd (bi (nJ b (D8 x ls env)) (ob (qo o ls env m) λv=>some [⟨v,m⟩]) (one .undef m)) _;rw [Nt,TM,zo];rfl
 | a o=>
  have h:Sw (.a o) d g k cf ls env m=ob (AQ g (uS o) ls env m.nx) (λr=>k cf (r.1::ls) (bD d r.1 env) (bL m r.2)):=by cases d<;>rfl
  rw [h];cases g with
  | none=>exact (zo (uS o ls env m.nx) (λr=>(⟨r.1,bL m r.2⟩:VM)) (λr=>k cf (r.v::ls) (bD d r.v env) r.m)).symm
  | some p=>obtain⟨x,b⟩:=p;show ob (bi (nJ b (D8 x ls env)) (uS o ls env m.nx) (some (.undef,none))) _=bnd (bi (nJ b (D8 x ls env)) (ob (uS o ls env m.nx) λr=>some [⟨r.1,bL m r.2⟩]) (one .undef m)) _;rw [Nt,TM,zo];rfl
 | e o=>
  have h:Sw (.e o) d g k cf ls env m=bnd (GZ g (lY o) cf ls env m) (KD true d k cf ls env):=by cases d<;>rfl
  rw [h];cases g with
  | none=>rfl
  | some p=>rfl
theorem xU {o:wR}{d:Option Nat}{g:Option (N9×Bool)}{k:RC}{cf:D7}{outs:List EM}(h:Sw o d g k cf ls env m=some outs):
  ∃l,evG cf g o ls env m=some l∧∀r∈l,∃os,KD (vw o) d k cf ls env r=some os∧∀o∈os,o∈outs:=by
 rw [TN] at h;exact U7 h
theorem OQ {β:Type}{v:d9}{p:d9->β}{q:β}(h:v.lt n):bW v p q=q:=by cases v<;>first | rfl | exact h.elim
theorem Xu {e:Bool}{d:Option Nat}{k:RC}{cf:D7}{r:VM}(h:r.v.lt n):KD e d k cf ls env r=k cf (r.v::ls) (bD d r.v env) r.m:=by
 cases e with
 | false=>rfl
 | true=>exact OQ h
theorem wo {e:Op}{o:Oper}(f:o.op=e){v:d9}(d:RM P G ι m w.heap)(c:(execOp a.eval o).run P w=.ok (.value (l7 ι v)) w)(b:v.lt (m.nm ι)):
  Does P a.eval o w (V9 P G ι m w [⟨v,m⟩]):=M0 c ⟨_,aA.2 rfl,ι,Step.refl d,b,rfl⟩
theorem TP {cf:D7}(z:lI P G cf)(s:St P ι (m.nm ι) slots done ls env a.tmps)(f:RM P G ι m w.heap){B:Op}{t:wR}(h:dY P slots done B=some t){outs:List VM}(q:OP cf t ls env m=some outs):
  ∀o:Oper,o.op=B->jA P a.eval o w (O0 P G ι m w outs):=by
 intro o i;cases t with
 | p po=>obtain⟨v,k,n⟩:=z8 q;cases n;obtain⟨u,x⟩:=qA s h k;exact U3 (wo i f (x o i w) u)
 | r ro=>obtain⟨v,k,n⟩:=z8 q;cases n;obtain⟨u,x⟩:=qB s f (sJ h) k;exact U3 (wo i f (x o i) u)
 | a lo=>
  obtain⟨r,k,n⟩:=z8 q;cases n;have C:¬ (m.nm ι) m.nx:=λ⟨_,h3,_⟩=>aeV _ (Mem.F9 f.ok h3);have D:=qE s (λ_ _=>rfl) C (xG h) k w;cases D with
  | none g hg=>exact U3 (wo i f (hg o i w) g)
  | made l obj w' hmk=>rename_i v b;have c:=Laid.new f.ok f.limn b hmk.live;have d:∀j,m.has j->(ι.upd m.nx l) j=ι j:=λj A=>ι.upd_ne _ λh=>c.free (h▸A);obtain⟨y,g⟩:=hmk.blk ((m.new b).nm (ι.upd m.nx l)) (Mem.U2 c.has d) c.self (by show ((ι.upd m.nx l) m.nx).cap=l.cap;rw [H6.S9]);exact U3 (M0 (hmk.run o i) ⟨_,aA.2 rfl,_,Step.lay f c hmk.grew hmk.loc hmk.spot y hmk.free,g,rfl⟩)
  | tail l hp y hg g=>rename_i v p;have c:=Laid.new f.ok f.limn (.tail p) rfl;have d:∀j,m.has j->(ι.upd m.nx l) j=ι j:=λj A=>ι.upd_ne _ λh=>c.free (h▸A);refine U3 (M0 (hg o i w) ⟨_,aA.2 rfl,_,Step.name f c rfl ⟨c.has p hp,?_⟩,g _ (Mem.U2 c.has d) c.self (by show ((ι.upd m.nx l) m.nx).cap=l.cap;rw [H6.S9]),rfl⟩);rw [d p hp];exact y
 | e eo=>exact zn z s f h q o i
theorem St.mono {ι':H6}{d:Nm}{tmps:Array Value}(s:St P ι n slots done ls env tmps)(a:∀i,n i->ι' i=ι i)(b:n.le d):St P ι' d slots done ls env tmps where
 ls t k hk:=by obtain⟨v,e,c,f⟩:=s.ls t k hk;exact⟨v,e,d9.L6 b v c,by rw [f,O7 a v c]⟩
 env:=s.env.mono a b
 glob i hg:=by rw [a i (s.gn i hg)];exact s.glob i hg
 gn g hg:=(b g (s.gn g hg)).1
theorem lK (t:Nat):∀(l:List (Option Nat)) (i j:Nat),fO t l (i+j)=(fO t l i).map (· + j)
 | [],i,j=>rfl
 | some x::l,i,j=>by
  simp only [fO];cases Nat.beq x t with
  | true=>simp
  | false=>simp only [cond_false];rw [show i+j+1=(i+1)+j from by omega];exact lK t l (i+1) j
 | none::l,i,j=>by simp only [fO];rw [show i+j+1=(i+1)+j from by omega];exact lK t l (i+1) j
def afg (d:Option Tmp)(v:Value)(tmps:Array Value):Array Value:=match d with
 | some t=>tmps.setIfInBounds t v
 | none=>tmps
theorem St.put {tmps:Array Value}(s:St P ι n slots done ls env tmps)(d:Option Tmp)(h:∀t,d=some t->t<tmps.size){v:d9}(i:v.lt n):
  St P ι n slots (d::done) (v::ls) (bD (Ey slots d) v env) (afg d (l7 ι v) tmps) where
 ls t k hk:=by
  cases d with
  | none=>simp only [fO] at hk;rw [lK t done 0 1] at hk;obtain⟨g,a,rfl⟩:=aay.1 hk;obtain⟨u,b,c,f⟩:=s.ls t g a;exact⟨u,by simpa using b,c,f⟩
  | some t0=>
   simp only [fO] at hk;cases hb:Nat.beq t0 t with
   | true=>rw [hb] at hk;cases hk;obtain rfl:=aP hb;exact⟨v,rfl,i,by show (tmps.setIfInBounds t0 (l7 ι v)).getD t0 undef=_;rw [Y9 _ _ _ _ (h t0 rfl),if_pos rfl]⟩
   | false=>rw [hb,cond_false,lK t done 0 1] at hk;obtain⟨g,a,rfl⟩:=aay.1 hk;obtain⟨u,b,c,f⟩:=s.ls t g a;refine⟨u,by simpa using b,c,?_⟩;show (tmps.setIfInBounds t0 (l7 ι v)).getD t undef=_;rw [Y9 _ _ _ _ (h t0 rfl),if_neg (λe=>by rw [e] at hb;simp [aat] at hb)];exact f
 env:=s.env.put d i
 glob:=s.glob
 gn:=s.gn
theorem fH (a:Act)(d:Option Tmp)(v:Value):(a.put d v).tmps=afg d v a.tmps∧(a.put d v).defers=a.defers:=by cases d<;>exact⟨rfl,rfl⟩
theorem aQ (a:Act)(d:Option Tmp)(v:Value):(a.put d v).tmps.size=a.tmps.size:=by cases d<;>simp [Act.put]
def lN (ops:Array Oper)(done:List (Option Nat)):Option (Nat×Bool)->Option (N9×Bool)->Prop
 | none,g=>g=none
 | some (j,wt),g=>∃og d k,ops[j]?=some og∧og.dst=some d∧fO d done 0=some k∧g=some (.loc k,wt)
def rG (g:Option (N9×Bool))(ls:List d9)(env:T d9):Bool:=match g with
 | none=>true
 | some (x,wt)=>nJ wt (D8 x ls env)
def bOf:Option Value->Option Bool
 | some (.bool b)=>some b
 | _=>none
theorem Nu (ops:Array Oper)(tmps:Array Value)(j:Nat):yielded ops tmps j=bOf (((ops[j]?).bind (·.dst)).bind (tmps[·]?)):=by
 unfold yielded;generalize ((ops[j]?).bind (·.dst)).bind (tmps[·]?)=z;cases z with
 | none=>rfl
 | some v=>cases v<;>rfl
theorem TQ (a:Bool)(v:d9):(bOf (some (l7 ι v))==some a)=nJ a v:=by
 cases v with
 | bool b=>simp only [l7,bOf,nJ,yV];cases b<;>cases a<;>rfl
 | _=>simp [l7,nJ,bOf]
theorem mo {ops:Array Oper}{o:Oper}{g:Option (N9×Bool)}{tmps:Array Value}(s:St P ι n slots done ls env tmps)(b:lN ops done o.guard g):
  Region.wanted o (yielded ops tmps)=rG g ls env:=by
 unfold Region.wanted;cases hgd:o.guard with
 | none=>rw [hgd] at b;obtain rfl:g=none:=b;rfl
 | some p=>
  obtain⟨j,c⟩:=p;rw [hgd] at b;obtain⟨q,d,k,e,f,h,rfl⟩:=b;obtain⟨v,i,m,a⟩:=s.ls d k h;have l:D8 (.loc k) ls env=v:=by rw [Cj,i];rfl
  show (yielded ops tmps j==some c)=nJ c (D8 (.loc k) ls env);rw [l,Nu,e,ac3,f,ac3,← TQ (ι:=ι)];rw [Hl] at a;cases ht:tmps[d]? with
  | none=>rw [ht] at a;have a:undef=l7 ι v:=a;rw [← a];rfl
  | some x=>rw [ht] at a;have a:x=l7 ι v:=a;rw [a]
theorem lQ {r:Option Nat}{o:Oper}{a:Act}{w:World}{b:Act->World->Prop}{Q:Exit->Act->World->Prop}(j:∀c,o.op≠.defer c){R:Ending->World->Prop}(h:jA P a.eval o w R)
  (g:∀v w',R (.returned v) w'->b (a.put o.dst v) w') (hp:∀c w',R (.panicked c) w'->Q (.panic c) a w') (m:∀w',¬ R .outgrown w'):o.wpIn (FR r) 0 P a w b Q:=by
 refine⟨λ_ _=>trivial,?_⟩;rw [Oper.semAt_eq _ _ _ j];unfold jA at h;generalize (execOp a.eval o).run P w=res at h;cases res with
 | halt x w'=>
  cases x with
  | panic v=>exact hp _ _ h
  | _=>exact h.elim
 | ok x w'=>
  cases x with
  | value v=>exact g _ _ h
  | skip=>exact g _ _ h
  | enter f args=>
   refine⟨(λi=>by cases i),ajy (F:=FR r) h ?_⟩;intro e k d;cases e with
   | returned v=>exact g _ _ d
   | panicked c=>exact hp _ _ d
   | outgrown=>exact absurd d (m _)
  | round l f tmps assign body=>
   refine⟨(λi=>by cases i),RoundIn.mono (F:=FR r) h ?_⟩;intro e k d;cases e with
   | returned v=>exact g _ _ d
   | panicked c=>exact hp _ _ d
   | outgrown=>exact absurd d (m _)
  | _=>exact h.elim
theorem gJ {r:Option Nat}{o:Oper}{a:Act}{w:World}{b:Act->World->Prop}{Q:Exit->Act->World->Prop}(d:∀c,o.op≠.defer c){R:Value->World->Prop}(h:Does P a.eval o w R)
  (f:∀v w',R v w'->b (a.put o.dst v) w'):o.wpIn (FR r) 0 P a w b Q:=by
 refine lQ d (Nr h) (λv w' h=>?_) (λc w' h=>?_) (λw' h=>?_);obtain⟨u,e,h⟩:=h;cases e;exact f _ _ h;obtain⟨u,e,_⟩:=h;cases e;obtain⟨u,e,_⟩:=h;cases e
theorem pQ {d:Op}{b:wR}(h:dY P slots done d=some b)(a:∀f as,b≠.e (.defer f as)):∀c,d≠.defer c:=by rintro c rfl;simp only [dY] at h;split at h;obtain⟨_,_,h⟩:=bind_eq h;obtain⟨_,_,h⟩:=bind_eq h;cases h;exact a _ _ rfl;cases h
theorem oN {outs:List VM}{w':World}:¬ O0 P G ι m w outs .outgrown w':=by rintro (⟨v,h,_⟩ | ⟨r,_,x,ι',_,_,_,h⟩)<;>cases h
theorem CU {b:Op}{a:wR}{cf:D7}{outs:List VM}(h:dY P slots done b=some a)(d:OP cf a ls env m=some outs):∀c,b≠.defer c:=by rintro c rfl;simp only [dY] at h;split at h;obtain⟨_,_,h⟩:=bind_eq h;obtain⟨_,_,h⟩:=bind_eq h;cases h;cases d;cases h
theorem jL {ops:Array Oper}{i:Nat}{x:Inst}{d:Option Nat}(h:nT P slots done ops i=some (x,d)):
  ∃o,ops[i]?=some o∧d=o.dst∧x.op=jv P slots done o.op∧x.dst=Ey slots o.dst∧lN ops done o.guard x.guard:=by
 obtain⟨o,a,h⟩:=bind_eq h;dsimp only at h;cases hg:o.guard with
 | none=>rw [hg] at h;dsimp only at h;cases h;exact⟨o,a,rfl,rfl,rfl,by rw [hg];rfl⟩
 | some p=>obtain⟨j,l⟩:=p;rw [hg] at h;dsimp only at h;obtain⟨g,c,h⟩:=bind_eq h;obtain⟨b,e,h⟩:=bind_eq h;obtain⟨k,f,h⟩:=bind_eq h;cases h;exact⟨o,a,rfl,rfl,rfl,by rw [hg];exact⟨g,b,k,c,e,f,rfl⟩⟩
theorem OT {r:Option Nat}{cf:D7}(i:lI P G cf)(s:St P ι (m.nm ι) slots done ls env a.tmps)(l:RM P G ι m w.heap){ops:Array Oper}{o:Oper}{g:Option (N9×Bool)}(q:lN ops done o.guard g)
  {outs:List VM} (b:evG cf g (jv P slots done o.op) ls env m=some outs) {K:Act->World->Prop} {Q:Exit->Act->World->Prop}
  (k:∀v∈outs,∀ι' w',Step P G ι m w ι' v.m w'->v.v.lt (v.m.nm ι')->K (a.put o.dst (l7 ι' v.v)) w')
  (n:∀v∈outs,∀x ι' w',v.v=.ng x->Step P G ι m w ι' v.m w'->x.lt (v.m.nm ι')->Q (.panic [{v:=l7 ι' x,recovered:=false}]) a w'):
  if Region.wanted o (yielded ops a.tmps) then o.wpIn (FR r) 0 P a w K Q else (∀f,o.about P w a.eval=some f->(FR r).fn f)∧K (a.put o.dst undef) w:=by
 rw [mo s q];have d:OP cf (jv P slots done o.op) ls env m=some outs->o.wpIn (FR r) 0 P a w K Q:=by
  intro b;cases hc:dY P slots done o.op with
  | none=>simp only [jv,hc] at b;cases b
  | some ao=>simp only [jv,hc] at b;refine lQ (CU hc b) (TP i s l hc b o rfl) ?_ ?_ λ_=>oN;rintro v w' (⟨u,hu,x,hx,ι',h1,h2,rfl⟩ | ⟨_,_,_,_,_,_,_,h⟩);cases hu;exact k x hx ι' w' h1 h2;cases h;rintro c w' (⟨u,hu,_⟩ | ⟨x,hx,y,ι',h1,h2,h3,h4⟩);cases hu;cases h4;exact n x hx y ι' w' h1 h2 h3
 cases g with
 | none=>exact d b
 | some p=>
  obtain⟨x,e⟩:=p;have b:bi (nJ e (D8 x ls env)) (OP cf (jv P slots done o.op) ls env m) (one .undef m)=some outs:=b;have j:rG (some (x,e)) ls env=nJ e (D8 x ls env):=rfl;rw [j];cases hb:nJ e (D8 x ls env) with
  | true=>rw [hb] at b;simp only [if_true];exact d b
  | false=>rw [hb] at b;cases b;simp only [aau,if_false];refine⟨λ_ _=>trivial,?_⟩;have:=k ⟨.undef,m⟩ (aA.2 rfl) ι w (Step.refl l) trivial;rw [jK] at this;exact this
theorem oh {ops:Array Oper}{i:Nat}{b:List Nat}{a:List Inst}(h:iT P slots ops done (i::b)=some a):
  ∃x d l,nT P slots done ops i=some (x,d)∧iT P slots ops (d::done) b=some l∧a=x::l:=by
 simp only [iT] at h;split at h;split at h;cases h;exact⟨_,_,_,by assumption,by assumption,rfl⟩;cases h;cases h
def qU (ι:H6):Mk->Deferred
 | .c id=>{target:=.collected (ι id).b,args:=#[]}
 | .d (.func fn a b) args=>{target:=.fn (gZ ι fn) (o9 ι b).toArray,args:=(o9 ι a).toArray++(o9 ι args).toArray}
 | .d _ _=>{target:=.nil,args:=#[]}
def QI (ι:H6)(m:Mem):Mk->Prop
 | .c id=>m.has id∧m.lim<=id
 | .d v args=>(∃fn a b,v=.func fn a b)∧v.lt (m.nm ι)∧X0 (m.nm ι) args
def eG (ι:H6)(m:Mem)(k:List Mk)(ds:List Deferred):Prop:=ds=k.map (qU ι)∧∀x∈k,QI ι m x
theorem QI.step {ι':H6}{m':Mem}{w':World}{x:Mk}(h:QI ι m x)(f:Step P G ι m w ι' m' w'):QI ι' m' x∧qU ι' x=qU ι x:=by
 cases x with
 | c id=>exact⟨⟨f.has id h.1,by rw [f.lim];exact h.2⟩,by simp only [qU,f.ext id h.1]⟩
 | d v args=>obtain⟨⟨q,a,b,rfl⟩,i,j⟩:=h;have e:=f.l7 i;have g:=Mem.U2 f.has f.ext;refine⟨⟨⟨q,a,b,rfl⟩,d9.L6 g _ i,bN g _ j⟩,?_⟩;have k:=dG (n:=m.nm ι) f.ext args j;simp only [l7,Value.func.injEq] at e;obtain⟨l,o,p⟩:=e;simp only [qU,k,l,o,p]
theorem eG.step {ι':H6}{m':Mem}{w':World}{k:List Mk}{ds:List Deferred}(h:eG ι m k ds)(a:Step P G ι m w ι' m' w'):eG ι' m' k ds:=by refine⟨?_,λx b=>((h.2 x b).step a).1⟩;rw [h.1];exact ag5 λx b=>((h.2 x b).step a).2.symm
def TR (ι:H6)(e:EM):Exit:=match e.px with
 | none=>.normal
 | some x=>.panic [{v:=l7 ι x,recovered:=false}]
theorem wu {i:Inst}{l:List Inst}(h:l≠[]∨nQ i=none):aI (i::l)=Sw i.op i.dst i.guard (aI l):=by
 cases l with
 | cons=>rfl
 | nil=>rcases h with h | h;exact absurd rfl h;show BX i=Sw i.op i.dst i.guard j6;unfold BX;rw [h]
theorem ab9 {r:Option Nat}(K:r=none)(s:St P ι (m.nm ι) slots done ls env a.tmps)(J:RM P G ι m w.heap){ops:Array Oper}{o:Oper}{x:Inst}(g:x.op=jv P slots done o.op)(t:x.dst=Ey slots o.dst)(u:lN ops done o.guard x.guard)
  {f:N9} {h:List N9} (l:nQ x=some (f,h)) {outs:List EM} {cf:D7} (B:JL (D8 f) (dU h) cf ls env m=some outs) {Q:Exit->Act->World->Prop}
  (I:∀e∈outs,∀ι' w' a',Step P G ι m w ι' e.m w'->Q6 ι' (e.m.nm ι') slots e.env a'.tmps->a'.defers=e.mks.map (qU ι')++a.defers->(∀y∈e.mks,QI ι' e.m y)->a'.tmps.size=a.tmps.size->(∀y,e.px=some y->y.lt (e.m.nm ι'))->Q (TR ι' e) a' w'):
  if Region.wanted o (yielded ops a.tmps) then o.wpIn (FR r) 0 P a w (Q .normal) Q else (∀f,o.about P w a.eval=some f->(FR r).fn f)∧Q .normal (a.put o.dst undef) w:=by
 subst K;obtain⟨op,dst,guard⟩:=x;have g:op=jv P slots done o.op:=g;have t:dst=Ey slots o.dst:=t;have u:lN ops done o.guard guard:=u;have b:op=.e (.defer f h)∧guard=none∧dst=none:=by unfold nQ at l;split at l;rename_i n p q;cases l;exact⟨n,p,q⟩;cases l
 obtain⟨rfl,rfl,rfl⟩:=b;have L:Region.wanted o (yielded ops a.tmps)=true:=by rw [mo s u];rfl
 rw [L,if_pos rfl];have k:dY P slots done o.op=some (.e (.defer f h)):=by unfold jv at g;split at g;rename_i O A;rw [A,← g];cases g
 cases hop:o.op with
 | defer c=>
  rw [hop] at k;cases xH k with
  | defer n p q=>
   obtain⟨C,D⟩:=y9 s p;obtain⟨E,F⟩:=Ih s q;obtain⟨fn,x,y,H,B⟩:=Hr B;cases B;rw [H] at C D;refine⟨λ_ _=>trivial,?_⟩;have j:(Oper.semAt none a.eval o).run P w=.ok (.defer (qU ι (.d (.func fn x y) (evs (dU h) ls env)))) w:=by rw [Oper.semAt_none];simp [execOp,hop,resolve,n,C,E,l7,Deferred.ofValue,qU]
   show o.uponIn (FR none) 0 P a (Q .normal) Q ((Oper.semAt none a.eval o).run P w);rw [j];have i:=s.env.put o.dst (v:=.undef) trivial;rw [← t,jK] at i;refine I _ (aA.2 rfl) ι w _ (Step.refl J) ?_ ?_ ?_ ?_ (λy M=>by cases M);rw [(fH _ o.dst undef).1];exact i;rw [(fH _ o.dst undef).2];rfl;intro z N;obtain rfl:=aA.1 N;exact⟨⟨_,_,_,rfl⟩,D,F⟩;rw [aQ]
 | _=>rw [hop] at k;cases xH k
theorem QJ {r:Option Nat}{cf:D7}(J:lI P G cf){ops:Array Oper}{nt:Nat}(a3:∀(i:Nat)(o:Oper)(t:Tmp),ops[i]?=some o->o.dst=some t->t<nt){Q:Exit->Act->World->Prop}:
  ∀(l:List Nat) (done:List (Option Nat)) (insts:List Inst),iT P slots ops done l=some insts->(gY insts=true->r=none)->∀(ls:List d9) (env:T d9) (m:Mem) (ι:H6) (w:World) (a:Act) (outs:List EM),
   RM P G ι m w.heap->nt<=a.tmps.size->St P ι (m.nm ι) slots done ls env a.tmps->aI insts cf ls env m=some outs->
   (∀e∈outs,∀ι' w' a',Step P G ι m w ι' e.m w'->Q6 ι' (e.m.nm ι') slots e.env a'.tmps->a'.defers=e.mks.map (qU ι')++a.defers->(∀y∈e.mks,QI ι' e.m y)->a'.tmps.size=a.tmps.size->(∀y,e.px=some y->y.lt (e.m.nm ι'))->Q (TR ι' e) a' w')->
   wpOpsIn (FR r) 0 P ops Q l a w:=by
 intro l;induction l with
 | nil=>intro done insts E K ls env m ι w a outs F M s B S;simp only [iT,gB] at E;subst E;have B:some [EM.mk env m none []]=some outs:=B;cases B;exact S _ (aA.2 rfl) ι w a (Step.refl F) s.env rfl (λy W=>by cases W) rfl (λy W=>by cases W)
 | cons i rest ih=>
  intro done insts E K ls env m ι w a outs F M s B S;obtain⟨x,d,l,hx,hl,rfl⟩:=oh E;obtain⟨o,h1,rfl,I,Z,h4⟩:=jL hx;simp only [wpOpsIn,h1];by_cases hdd:l≠[]∨nQ x=none;rw [wu hdd] at B;obtain⟨vs,c,hk⟩:=xU B;rw [I] at c;refine OT J s F h4 c ?_ ?_;intro v g ι' w' A k;obtain⟨os,C,D⟩:=hk v g;rw [Xu k,Z] at C;have s':=(St.mono (n:=m.nm ι) s A.ext (Mem.U2 A.has A.ext)).put o.dst (λt ht=>q9 (a3 i o t h1 ht) M) k;refine ih _ _ hl (λh=>K (by simp [gY,h])) _ _ _ ι' w' (a.put o.dst (l7 ι' v.v)) os A.rm (by rw [aQ];exact M) (by rw [(fH a o.dst (l7 ι' v.v)).1];exact s') C ?_;intro e he Y a7 a0 V a2 U L a5 a4;exact S e (D e he) Y a7 a0 (A.trans V) a2 (by rw [U,(fH a o.dst _).2]) L (a5.trans (aQ a o.dst _)) a4;intro v g y ι' w' b A k;obtain⟨os,C,D⟩:=hk v g;have hE:vw x.op=true:=by
   cases hb:vw x.op with
   | true=>rfl
   | false=>exfalso;exact not_pan J s F h4 I hb c g b
  have C:some [(⟨env,v.m,some y,[]⟩:EM)]=some os:=by
   have:KD (vw x.op) x.dst (aI l) cf ls env v=some [⟨env,v.m,some y,[]⟩]:=by unfold KD;rw [hE,b];rfl
   rw [← C,this]
  cases C;exact S _ (D _ (aA.2 rfl)) ι' w' a A (A.env s.env) rfl (λy W=>by cases W) rfl (λz hz=>by cases hz;exact k);simp only [not_or,Decidable.not_not] at hdd;obtain⟨rfl,a1⟩:=hdd;cases hdo:nQ x with
  | none=>exact absurd hdo a1
  | some p=>
   obtain⟨f,as⟩:=p;have hr:r=none:=K (by simp [gY,hdo]);have B:JL (D8 f) (dU as) cf ls env m=some outs:=by have:aI [x]=JL (D8 f) (dU as):=(by show BX x=_;unfold BX;rw [hdo]);rw [← this];exact B
   have N:rest=[]:=by
    cases rest with
    | nil=>rfl
    | cons j rest=>obtain⟨_,_,_,_,_,h⟩:=oh hl;cases h
   subst N;exact ab9 hr s F I Z h4 hdo B S
where
 not_pan {P:Program} {G:Mem} {ι:H6} {m:Mem} {w:World} {slots:List Nat} {done:List (Option Nat)} {ls:List d9} {env:T d9} {a:Act} {cf:D7} (J:lI P G cf) (s:St P ι (m.nm ι) slots done ls env a.tmps) (F:RM P G ι m w.heap) {ops:Array Oper} {o:Oper} {x:Inst}
   (h4:lN ops done o.guard x.guard) (I:x.op=jv P slots done o.op) (hb:vw x.op=false) {vs:List VM} (c:evG cf x.guard (jv P slots done o.op) ls env m=some vs) {v:VM} (g:v∈vs) {y:d9} (b:v.v=.ng y):False:=by
  rw [← I] at c;have X:OP cf x.op ls env m=some vs->False:=by
   intro B;cases E:dY P slots done o.op with
   | none=>rw [I] at hb;simp [jv,E,vw] at hb
   | some ao=>
    have a6:x.op=ao:=(by rw [I];simp [jv,E]);rw [a6] at B hb;cases ao with
    | p po=>obtain⟨u,O,R⟩:=z8 B;cases R;obtain rfl:=aA.1 g;have:=(qA s E O).1;have b:u=.ng y:=b;rw [b] at this;exact this
    | r ro=>obtain⟨u,O,R⟩:=z8 B;cases R;obtain rfl:=aA.1 g;have:=(qB s F (sJ E) O).1;have b:u=.ng y:=b;rw [b] at this;exact this
    | a lo=>
     obtain⟨u,O,R⟩:=z8 B;cases R;obtain rfl:=aA.1 g;have H:u.1=.ng y:=b;clear g c B b;have b:=H;clear H;have hn:¬ (m.nm ι) m.nx:=λ⟨_,Z,_⟩=>aeV _ (Mem.F9 F.ok Z);have hs:=qE s (λ_ _=>rfl) hn (xG E) O w;cases hs with
     | none k hg=>dsimp only at b;subst b;exact k
     | made l obj w' L=>have:=(L.blk ⟨λ_=>True,λi=>if i=m.nx then l.cap else (ι i).cap⟩ (λi hi=>⟨trivial,by show (if i=m.nx then l.cap else (ι i).cap)=(ι i).cap;rw [if_neg];rintro rfl;exact hn hi⟩) trivial (if_pos rfl)).2;dsimp only at b;subst b;exact this
     | tail l hp hbb hg k=>have:=k ⟨λ_=>True,λi=>if i=m.nx then l.cap else (ι i).cap⟩ (λi hi=>⟨trivial,by show (if i=m.nx then l.cap else (ι i).cap)=(ι i).cap;rw [if_neg];rintro rfl;exact hn hi⟩) trivial (if_pos rfl);dsimp only at b;subst b;exact this
    | e eo=>simp [vw] at hb
  cases hg:x.guard with
  | none=>rw [hg] at c;exact X c
  | some z=>
   obtain⟨q,wt⟩:=z;rw [hg] at c;have c:bi (nJ wt (D8 q ls env)) (OP cf x.op ls env m) (one .undef m)=some vs:=c;cases hB:nJ wt (D8 q ls env) with
   | true=>rw [hB] at c;exact X c
   | false=>rw [hB] at c;cases c;obtain rfl:=aA.1 g;cases b
end
theorem TS (v:d9):∀(n i j:Nat) (t:T d9),i≠j->way n j (rM n i v t)=way n j t:=by
 intro n;induction n with
 | zero=>intro i j t h;rfl
 | succ n ih=>
  intro i j t h;cases t with
  | e=>
   cases i with
   | zero=>rfl
   | succ i=>rcases aar i with h0 | h0<;>simp only [rM,h0]<;>rfl
  | nd l x r=>
   cases i with
   | zero=>
    cases j with
    | zero=>exact absurd rfl h
    | succ j=>rcases aar j with h0 | h0<;>simp only [way,rM,h0]<;>rfl
   | succ i=>
    cases j with
    | zero=>rcases aar i with h0 | h0<;>simp only [way,rM,h0]<;>rfl
    | succ j=>
     rcases aar i with h0 | h0<;>rcases aar j with h1 | h1<;>simp only [way,rM,h0,h1]
     exact ih (i / 2) (j / 2) l (by omega);rfl;rfl;exact ih (i / 2) (j / 2) r (by omega)
theorem CV {d:Option Nat}{j:Nat}(h:d≠some j)(v:d9)(ls ls':List d9)(env:T d9):D8 (.slot j) ls' (bD d v env)=D8 (.slot j) ls env:=by
 cases d with
 | none=>rfl
 | some i=>exact TS v 64 i j env (λe=>h (by rw [e]))
theorem TU {d:Option Nat}{y:N9}(h:∀j,y=.slot j->d≠some j)(v:d9)(ls:List d9)(env:T d9):D8 (bump y) (v::ls) (bD d v env)=D8 y ls env:=by
 cases y with
 | loc k=>rw [Cj];show D8 (.loc (k+1)) (v::ls) (bD d v env)=_;rw [Cj];simp
 | slot j=>exact CV (h j rfl) v ls (v::ls) env
 | con c=>rfl
section
variable {f:N9->N9}{ls ls':List d9}{env env':T d9}
theorem FN {o:wR}(h:∀x∈BM o,Sm f ls env ls' env' x)(cf:D7)(m:Mem):OP cf (mapA f o) ls' env' m=OP cf o ls env m:=by
 cases o with
 | p o=>show ob (lX (jr f o) ls' env') _=ob (lX o ls env) _;rw [FJ h]
 | r o=>show ob (qo (yR f o) ls' env' m) _=ob (qo o ls env m) _;rw [FK h]
 | a o=>show ob (uS (bC f o) ls' env' m.nx) _=ob (uS o ls env m.nx) _;rw [FL h]
 | e o=>exact FM h cf m
theorem QK {o:wR}{g:Option (N9×Bool)}(h:∀x∈BM o,Sm f ls env ls' env' x)(c:∀p,g=some p->Sm f ls env ls' env' p.1)(cf:D7)(m:Mem):
  evG cf (g.map λp=>(f p.1,p.2)) (mapA f o) ls' env' m=evG cf g o ls env m:=by
 cases g with
 | none=>exact FN h cf m
 | some p=>obtain⟨x,a⟩:=p;have b:D8 (f x) ls' env'=D8 x ls env:=c _ rfl;show bi (nJ a (D8 (f x) ls' env')) (OP cf (mapA f o) ls' env' m) (one .undef m)=bi (nJ a (D8 x ls env)) (OP cf o ls env m) (one .undef m);rw [b,FN h]
end
theorem TV {α β:Type}{x:Option (List α)}{f g:α->Option (List β)}(h:∀a os,f a=some os->g a=some os){outs:List β}(c:bnd x f=some outs):bnd x g=some outs:=by
 have e:∀(l:List α) (outs:List β),BU f l=some outs->BU g l=some outs:=by
  intro l;induction l with
  | nil=>intro outs h;exact h
  | cons a l ih=>intro outs d;rw [wm] at d ⊢;obtain⟨x,i,d⟩:=z8 d;obtain⟨y,j,d⟩:=z8 d;rw [h _ _ i,ih _ j];exact d
 cases x with
 | none=>cases c
 | some l=>
  match l,c with
  | [],c=>exact c
  | [a],c=>exact h a _ c
  | a::b::t,c=>exact e (a::b::t) _ c
theorem QL (f:N9->N9)(o:wR):vw (mapA f o)=vw o:=by cases o<;>rfl
theorem OU {β:Type}{v:d9}{p:d9->β}{q:β}(h:¬ ∃x,v=.ng x):bW v p q=q:=by cases v<;>first | rfl | exact absurd ⟨_,rfl⟩ h
theorem QM {e:Bool}{d:Option Nat}{k c:RC}{cf:D7}{ls ls':List d9}{env:T d9}{r:VM}{os:List EM}(h:∀os,k cf (r.v::ls') (bD d r.v env) r.m=some os->c cf (r.v::ls) (bD d r.v env) r.m=some os)
  (a:KD e d k cf ls' env r=some os):KD e d c cf ls env r=some os:=by
 cases e with
 | false=>exact h os a
 | true=>have a:bW r.v (λx=>some [⟨env,r.m,some x,[]⟩]) (k cf (r.v::ls') (bD d r.v env) r.m)=some os:=a;show bW r.v (λx=>some [⟨env,r.m,some x,[]⟩]) (c cf (r.v::ls) (bD d r.v env) r.m)=some os;by_cases b:∃x,r.v=.ng x;obtain⟨v,f⟩:=r;obtain⟨x,b⟩:=b;have b:v=.ng x:=b;subst b;exact a;rw [OU b] at a ⊢;exact h os a
theorem QN {f:N9->N9}{i:Inst}{g:Option (N9×Bool)}(h:nQ i=none)(a:g.isNone=i.guard.isNone):nQ ⟨mapA f i.op,i.dst,g⟩=none:=by
 obtain⟨op,dst,guard⟩:=i;cases guard with
 | some p=>
  cases g with
  | none=>cases a
  | some q=>simp [nQ]
 | none=>
  cases g with
  | some q=>cases a
  | none=>
   cases dst with
   | some d=>simp [nQ]
   | none=>
    cases op with
    | e o=>cases o<;>first | rfl | cases h
    | _=>rfl
def Rl (r:List N9)(ls ls':List d9)(env:T d9):Prop:=∀k,D8 (r.getD k (.con .undef)) ls' env=(ls[k]?).getD .undef
theorem Rl.rn {r:List N9}{ls ls':List d9}{env:T d9}(h:Rl r ls ls' env)(x:N9):Sm (rn r) ls env ls' env x:=by
 cases x with
 | loc k=>show D8 (r.getD k (.con .undef)) ls' env=D8 (.loc k) ls env;rw [h k,Cj]
 | slot j=>rfl
 | con c=>rfl
theorem Af {i:Inst}{l:List Inst}(h:gY (i::l)=false):aI (i::l)=Sw i.op i.dst i.guard (aI l):=by
 refine wu (.inr ?_);simp only [gY,adG] at h;cases hd:nQ i with
 | none=>rfl
 | some p=>rw [hd] at h;cases h.1
theorem Ii (cf:D7):∀(l:List Inst) (r:List N9) (ls ls':List d9) (env:T d9) (m:Mem) (outs:List EM),gY l=false->Rl r ls ls' env->(∀j,.slot j∈r->vP j l=false)->
  aI (kM r l) cf ls' env m=some outs->aI l cf ls env m=some outs:=by
 intro l;induction l with
 | nil=>intro r ls ls' env m outs _ _ _ h;exact h
 | cons i l ih=>
  intro r ls ls' env m outs b q E h;have e:gY l=false:=by simp only [gY,adG] at b;exact b.2
  have g:∀j,.slot j∈r->i.dst≠some j∧vP j l=false:=λj a=>by have:=E j a;simpa [vP] using this
  have f:aI (⟨mapA (rn r) i.op,i.dst,i.guard.map λp=>(rn r p.1,p.2)⟩::kM (.loc 0::r.map bump) l) cf ls' env m=some outs->aI (i::l) cf ls env m=some outs:=by
   intro h;have w:nQ i=none:=by
    simp only [gY,adG] at b;cases w:nQ i with
    | none=>rfl
    | some p=>rw [w] at b;cases b.1
   rw [wu (.inr (QN w (by cases i.guard<;>rfl)))] at h
   rw [Af b];have h:Sw (mapA (rn r) i.op) i.dst (i.guard.map λp=>(rn r p.1,p.2)) (aI (kM (.loc 0::r.map bump) l)) cf ls' env m=some outs:=h;rw [TN] at h ⊢;rw [QK (λx _=>q.rn x) (λp _=>q.rn p.1),QL] at h;refine TV (λv G A=>QM (λG A=>?_) A) h;refine ih _ _ _ _ _ _ e ?_ ?_ A;intro k;cases k with
   | zero=>rfl
   | succ k=>
    have C:(N9.loc 0::r.map bump).getD (k+1) (.con .undef)=bump (r.getD k (.con .undef)):=by rw [X6,X6,abW,aas];cases r[k]? <;> rfl
    rw [C,TU,q k];simp;intro j a;have:N9.slot j∈r:=by
     rw [X6] at a;cases hk:r[k]? with
     | none=>rw [hk] at a;cases a
     | some y=>rw [hk] at a;obtain rfl:y=.slot j:=a;exact U9 hk
    exact (g j this).1
   intro j a;rcases X4.1 a with a | a;cases a;obtain⟨y,F,n⟩:=ac4.1 a;cases y with
   | slot B=>obtain rfl:B=j:=by simpa [bump] using n
             exact (g _ F).2
   | loc k=>simp [bump] at n
   | con c=>simp [bump] at n
  have d:∀x,i.op=.p (.mov x)->i.dst=none->i.guard=none->(∀j,rn r x=.slot j->vP j l=false)->aI (kM (rn r x::r) l) cf ls' env m=some outs->aI (i::l) cf ls env m=some outs:=by
   intro x s t u D h;rw [Af b,s,t,u];show aI l cf (D8 x ls env::ls) env m=some outs;refine ih _ _ _ _ _ _ e ?_ ?_ h;intro k;cases k with
   | zero=>exact q.rn x
   | succ k=>simpa using q k
   intro j a;rcases X4.1 a with a | a;exact D j a.symm;exact (g j a).2
  simp only [kM] at h;split at h;rename_i x s t u;split at h;rename_i j a;cases hw:vP j l with
  | true=>rw [hw] at h;exact f h
  | false=>rw [hw] at h;refine d x s t u (λB o=>?_) (by rw [a];exact h);rw [a] at o;cases o;exact hw
  rename_i z;exact d x s t u (λj a=>absurd a (z j)) h;exact f h
section
variable {P:Program}{G:Mem}{ι:H6}{n:Nm}{m:Mem}{w:World}{slots:List Nat}{done:List (Option Nat)}{ls:List d9}{env:T d9}{a:Act}
def TW:aT->Exit
 | .normal=>.normal
 | .exit id=>.exit id
 | .ret=>.ret
def OV (ι:H6)(o:Out):Exit:=match o.pv with
 | none=>TW o.x
 | some x=>.panic [{v:=l7 ι x,recovered:=false}]
def QO (ι:H6)(o:Out):Prop:=∀x,o.pv=some x->o.x=.ret∧x.lt (o.m.nm ι)
theorem aB {ι:H6}{o:Out}(h:o.pv=none):QO ι o:=λx a=>by rw [h] at a;cases a
theorem jW {ι:H6}{o:Out}(h:QO ι o)(a:o.x≠.ret):o.pv=none:=by
 cases hp:o.pv with
 | none=>rfl
 | some x=>exact absurd (h x hp).1 a
def QS (ι:H6)(m:Mem)(ir r:Option Nat):Prop:=r=ir.map (λl=>(ι l).b)∧∀l,ir=some l->m.has l
theorem QS.step {ι':H6}{m':Mem}{w':World}{b r:Option Nat}{G:Mem}(h:QS ι m b r)(a:Step P G ι m w ι' m' w'):QS ι' m' b r:=by
 refine⟨?_,λl c=>a.has l (h.2 l c)⟩;rw [h.1];cases b with
 | none=>rfl
 | some l=>simp [a.ext l (h.2 l rfl)]
theorem St.start (a:RM P G ι m w.heap){tmps:Array Value}(h:Q6 ι (m.nm ι) slots env tmps):St P ι (m.nm ι) slots [] [] env tmps:=
 ⟨λt k b=>by simp [fO] at b,h,a.glob,a.ghas⟩
theorem sS {β:Type}{b:Option N7}{f:LoopState->Option aT->T d9->List (Option Nat)->P9->P9->Option β}{r:β}(h:nR b f=some r):
  ∃st pend env params assign body,b=some (.loop st pend env params assign body)∧f st pend env params assign body=some r:=by
 unfold nR at h;split at h;exact⟨_,_,_,_,_,_,rfl,h⟩;cases h
theorem KE {cf:D7}(i:lI P G cf)(q:RM P G ι m w.heap){g:Operand}{l:Nat}{e:d9}(o:a.eval g=l7 ι e)(j:e.lt (m.nm ι))(p:m.has l){outs:List VM}
  (h:Ti cf m [.func (.yield l) [] []] e=some outs):
  ∃d f args,(resolve a.eval (rangeCall g (ι l).b) 0).run P w=.ok d w∧(invoke d.target d.args).run P w=.ok (.enter f args) w∧CallsIn Fence.wide 0 P f args w (O0 P G ι m w outs):=by
 obtain⟨k,x,y,rfl,h⟩:=Hr h;obtain⟨_,r,s⟩:=j;cases k with
 | func gf=>have h:cf (.func gf) (ah x (ah [.func (.yield l) [] []] y)) m=some outs:=h;rw [Q8,Q8] at h;obtain⟨n,c⟩:=i.func h;refine⟨{target:=.fn (.func gf) (o9 ι y).toArray,args:=(o9 ι x).toArray ++ #[.func (.yield (ι l).b) #[] #[]]},gf,_,?_,?_,c q (iq r ⟨⟨p,trivial,trivial⟩,s⟩)⟩;show (Deferred.ofValue (a.eval g) (#[Operand.const (.func (.yield (ι l).b) #[] #[])].map a.eval)).run P w=_;rw [o];simp [l7,gZ,Deferred.ofValue,Act.eval];simp [invoke,lJ n,je,o9,l7,gZ]
 | _=>cases h
theorem ER {F:Fence}{b:Nat}{Q:Exit->Act->World->Prop}{x:aT}(h:Q (TW x) a w):(exitCode x).wpIn F b P Q a w:=by
 cases x with
 | normal=>exact wpIn_skip h
 | exit id=>exact wpIn_exit h
 | ret=>exact wpIn_ret h
theorem KF {r:Option Nat}{cf:D7}(a5:lI P G cf){nt:Nat}{g:Operand}{ps:Array Tmp}{assign body:Code}{z:N9}{x y:P9}(hz:J7 P slots [] g=some z)(hx:O8 P slots assign=some x)(hy:O8 P slots body=some y)
  (ha:tmpsIn nt assign=true) (hb:tmpsIn nt body=true) {s:World} {m1:Mem} {p:H6} {k:List Mk} {mark:List Deferred} {D:Nat} (hm:RM P G ι m w.heap) (q:Step P G ι m w p m1 s)
  (Y:Q6 ι (m.nm ι) slots env a.tmps) (a6:nt<=a.tmps.size)
  (H:∀fn,(Instr.enterLoop fn a.tmps ps assign body r).run P w=.ok (s.heap.size,mark) (s.alloc (.loop {state:=.ready,pending:=none,fn,tmps:=a.tmps,params:=ps,assign,body,defers:=D})))
  (I:eG p m1 k (mark++a.defers)) {outs:List Out} (hv:MS cf (D8 z [] env) (ps.toList.map λt=>idxOf t slots 0) x y env m1 k=some outs) {Q:Exit->Act->World->Prop}
  (hQ:∀o∈outs,∀ι' w' a',Step P G ι m w ι' o.m w'->Q6 ι' (o.m.nm ι') slots o.env a'.tmps->a'.tmps.size=a.tmps.size->eG ι' o.m o.marks a'.defers->QO ι' o->Q (OV ι' o) a' w'):
  (Code.rangeFunc g ps assign body).wpIn (FR r) 0 P Q a w:=by
 refine wpIn_rangeFunc λfn _=>?_;obtain⟨e1,e2⟩:=y9 (St.start hm Y) hz;have u:=Laid.new q.rm.ok q.rm.limn (.loop .ready none env (ps.toList.map λt=>idxOf t slots 0) x y) rfl;generalize hrec:({state:=.ready,pending:=none,fn,tmps:=a.tmps,params:=ps,assign,body,defers:=D}:Loop)=rec at *;have M:∀j,m1.has j->(p.upd m1.nx ⟨s.heap.size,0,0,none⟩) j=p j:=λj hj=>p.upd_ne _ λh=>u.free (h▸hj);have E:Step P G p m1 s (p.upd m1.nx ⟨s.heap.size,0,0,none⟩) (m1.new (.loop .ready none env (ps.toList.map λt=>idxOf t slots 0) x y)) (s.alloc (.loop rec)):=by refine Step.lay (w':=s.alloc (.loop rec)) q.rm u (o:=.loop rec) (l:=⟨s.heap.size,0,0,none⟩) ⟨rfl,rfl,rfl,rfl⟩ rfl rfl ?_ (by intro _ _ _ h;cases h);refine⟨rec,bK,by rw [← hrec],by rw [← hrec];rfl,slots,?_,by rw [← hrec],by rw [← hrec];exact hx,by rw [← hrec];exact hy,nt,by rw [← hrec];exact a6,by rw [← hrec];exact ha,by rw [← hrec];exact hb⟩;have:=(q.env Y).mono (n:=m1.nm p) M (Mem.U2 u.has M);rw [← hrec];exact this
 have C:=q.trans E;have R:((p.upd m1.nx ⟨s.heap.size,0,0,none⟩) m1.nx).b=s.heap.size:=by rw [H6.S9]
 generalize hι2:p.upd m1.nx ⟨s.heap.size,0,0,none⟩=ι2 at *;generalize hm2:m1.new (.loop .ready none env (ps.toList.map λt=>idxOf t slots 0) x y)=m2 at *;have O:m2.has m1.nx:=u.self;have hv:bnd (Ti cf m2 [.func (.yield m1.nx) [] []] (D8 z [] env)) (λr=>bW r.v (λ_=>none) <| nR (r.m.get m1.nx) λst A _ _ _ _=>match st with
   | .busy=>none
   | _=>match A with
    | none=>mH .normal env (r.m.set m1.nx .dead) k
    | some x=>mH x env (r.m.set m1.nx .dead) k)=some outs:=by rw [← hm2];exact hv
 obtain⟨vs,a7,hk⟩:=U7 hv;obtain⟨d,f,Z,S,a1,X⟩:=KE (a:=a) a5 C.rm (by rw [e1];exact (C.l7 e2).symm) (d9.L6 (Mem.U2 C.has C.ext) _ e2) O a7;rw [R] at S;refine⟨s.heap.size,mark,s.alloc (.loop rec),d,s.alloc (.loop rec),f,Z,s.alloc (.loop rec),(by rw [← hrec];exact H fn),S,λ_ _=>trivial,a1,(λhc=>by cases hc),ajy (F:=FR r) X ?_⟩;rintro e w3 (⟨v,rfl,r0,hr0,ι3,hst3,hlt3,_⟩ | ⟨r0,hr0,x0,ι3,hx0,_⟩)
 case inr=>obtain⟨os,i,_⟩:=hk r0 hr0;rw [hx0] at i;cases i
 obtain⟨os,i,U⟩:=hk r0 hr0;rw [OQ hlt3] at i;obtain⟨st,A,a9,a4,aa,ab,N,i⟩:=sS i;obtain⟨L,hL,J⟩:=hst3.rm.blk m1.nx _ N;have V:(ι3 m1.nx).b=s.heap.size:=by rw [hst3.ext _ O];exact R
 rw [V] at hL;have a2:r0.m.lim<=m1.nx:=by rw [hst3.lim,E.lim];exact q.rm.limn
 have W:L.state≠.busy:=by rw [J.state];intro e;subst e;cases i
 have a0:=run_endLoop (P:=P) hL W;have T:Step P G ι3 r0.m w3 ι3 (r0.m.set m1.nx .dead) (w3.putObj s.heap.size (.loop {L with state:=.exhausted})):=by refine Step.set hst3.rm a2 N rfl rfl (o:=.loop {L with state:=.exhausted}) ⟨by rw [V];rfl,rfl,rfl,rfl⟩ trivial (by intro _ _ _ h;cases h)
 have B:=(C.trans hst3).trans T;have a3:eG ι3 (r0.m.set m1.nx .dead) k (mark++a.defers):=I.step ((E.trans hst3).trans T);have K:Q6 ι3 ((r0.m.set m1.nx .dead).nm ι3) slots env a.tmps:=B.env Y;refine⟨L.pending,_,a0,?_⟩;have a8:∀j:Option Code,j=A.map exitCode->(match j with
   | none=>Q .normal {a with defers:=mark++a.defers} (w3.putObj s.heap.size (.loop {L with state:=.exhausted}))
   | some c=>c.wpIn (FR r) 0 P Q {a with defers:=mark++a.defers} (w3.putObj s.heap.size (.loop {L with state:=.exhausted}))):=by
  rintro j rfl;cases A with
  | none=>
   have i:mH .normal env (r0.m.set m1.nx .dead) k=some os:=by cases st<;>first | exact i | cases i
   cases i;exact hQ _ (U _ (aA.2 rfl)) ι3 _ {a with defers:=mark++a.defers} B K rfl a3 (aB rfl)
  | some x'=>
   have i:mH x' env (r0.m.set m1.nx .dead) k=some os:=by cases st<;>first | exact i | cases i
   cases i;exact ER (hQ _ (U _ (aA.2 rfl)) ι3 _ {a with defers:=mark++a.defers} B K rfl a3 (aB rfl))
 exact a8 _ J.pending
end
section
variable {P:Program}{G:Mem}
def FP (P:Program)(G:Mem)(slots:List Nat)(nt:Nat)(cf:D7)(fuel:Nat)(r:Option Nat)(c:Code)(ac:P9):Prop:=
 ∀(Q:Exit->Act->World->Prop) (ir:Option Nat) (env:T d9) (m:Mem) (k:List Mk) (ι:H6) (w:World) (a:Act) (outs:List Out),
  RM P G ι m w.heap->Q6 ι (m.nm ι) slots env a.tmps->nt<=a.tmps.size->eG ι m k a.defers->QS ι m ir r->xk ac cf fuel ir env m k=some outs->
  (∀o∈outs,∀ι' w' a',Step P G ι m w ι' o.m w'->Q6 ι' (o.m.nm ι') slots o.env a'.tmps->a'.tmps.size=a.tmps.size->eG ι' o.m o.marks a'.defers->QO ι' o->Q (OV ι' o) a' w')->
  c.wpIn (FR r) 0 P Q a w
def jM (P:Program)(G:Mem)(slots:List Nat)(nt:Nat)(cf:D7)(r:Option Nat):Prop:=
 ∀(id:Nat) (ops:Array Oper) (ac:P9) (fuel:Nat),O8 P slots (.region id ops true)=some ac->tmpsIn nt (.region id ops true)=true->FP P G slots nt cf fuel r (.region id ops true) ac
theorem Nv {a:List Nat}{id:Nat}{ops:Array Oper}{b:P9}(h:O8 P a (.region id ops true)=some b):(∃n l,b=.dreg n l)∨∃n l t,b=.dreg2 n l t:=by simp only [O8] at h;split at h;unfold Cb at h;split at h;split at h;unfold Br at h;split at h;split at h;cases h;exact .inr ⟨_,_,_,rfl⟩;cases h;cases h;cases h;cases h;unfold xu at h;split at h;cases h;split at h;cases h;exact .inl ⟨_,_,rfl⟩;cases h
theorem gK {nt id:Nat}{ops:Array Oper}{d:Bool}(h:tmpsIn nt (.region id ops d)=true)(i:Nat)(o:Oper)(t:Tmp)(a:ops[i]?=some o)(b:o.dst=some t):t<nt:=by simp only [tmpsIn,aap] at h;have:=h o (by simpa using Array.mem_of_getElem? a);rw [b] at this;exact Eq.mp Xb this
theorem qH {β:Type}{x:aT}{p:Option β}{q:Nat->Option β}{s:Option β}{r:β}(h:(aT.rec p q s x:Option β)=some r):
  (x=.normal∧p=some r)∨(∃id,x=.exit id∧q id=some r)∨(x=.ret∧s=some r):=by
 cases x with
 | normal=>exact .inl ⟨rfl,h⟩
 | exit id=>exact .inr (.inl ⟨id,rfl,h⟩)
 | ret=>exact .inr (.inr ⟨rfl,h⟩)
theorem qI {S:List Nat}{nt:Nat}{cf:D7}(ak:lI P G cf)(I:Nat){r:Option Nat}(al:jM P G S nt cf r):
  ∀(c:Code) (ac:P9),O8 P S c=some ac->tmpsIn nt c=true->FP P G S nt cf I r c ac:=by
 intro c;induction c with
 | skip=>intro ac n _ Q V f m k N w a outs R q F p E i O;simp only [O8,gB] at n;subst n;have i:mH .normal f m k=some outs:=i;cases i;exact wpIn_skip (O _ (aA.2 rfl) N w a (Step.refl R) q rfl p (aB rfl))
 | exit id=>intro ac n _ Q V f m k N w a outs R q F p E i O;simp only [O8,gB] at n;subst n;have i:mH (.exit id) f m k=some outs:=i;cases i;exact wpIn_exit (O _ (aA.2 rfl) N w a (Step.refl R) q rfl p (aB rfl))
 | ret=>intro ac n _ Q V f m k N w a outs R q F p E i O;simp only [O8,gB] at n;subst n;have i:mH .ret f m k=some outs:=i;cases i;exact wpIn_ret (O _ (aA.2 rfl) N w a (Step.refl R) q rfl p (aB rfl))
 | region id ops d=>
  intro ac n H Q V f m k N w a outs R q F p E i O;cases d with
  | false=>
   simp only [O8] at n;split at n;rename_i l hl;cases n;have aj:∃es,aI l cf [] f m=some es∧(gY l=true->r=none)∧∀e∈es,∃os,eT k e=some os∧∀o∈os,o∈outs:=by
    cases hd:gY l with
    | true=>
     have i:(bif gY l then He (aI l) else j4 (aI (kM [] l))) cf I V f m k=some outs:=i;rw [hd,cond_true] at i;cases V with
     | some l'=>cases i
     | none=>have i:bnd (aI l cf [] f m) (eT k)=some outs:=i;obtain⟨es,a7,hk⟩:=U7 i;exact⟨es,a7,λ_=>E.1,hk⟩
    | false=>have i:(bif gY l then He (aI l) else j4 (aI (kM [] l))) cf I V f m k=some outs:=i;rw [hd,cond_false] at i;have i:bnd (aI (kM [] l) cf [] f m) (eT k)=some outs:=i;obtain⟨es,a7,hk⟩:=U7 i;exact⟨es,Ii cf l [] [] [] f m es hd (λk=>by simp [D8,C9]) (λj hj=>by cases hj) a7,λh=>(by cases h),hk⟩
   obtain⟨es,a7,aw,hk⟩:=aj;refine wpIn_region (QJ ak (gK H) _ _ _ hl aw [] f m N w a es R F (St.start R q) a7 ?_);intro e he C w' Y J u aq am K ax;obtain⟨os,U,A⟩:=hk e he;obtain⟨a4,ae,ao,a3⟩:=e;have v:eG C ae (a3++k) Y.defers:=by refine⟨by rw [aq,(p.step J).1,ac5],λx hx=>?_⟩;rcases Z5.1 hx with hx | hx;exact am x hx;exact (p.step J).2 x hx
   cases ao with
   | none=>have U:mH .normal a4 ae (ah a3 k)=some os:=U;rw [Q8] at U;cases U;exact O _ (A _ (aA.2 rfl)) C w' Y J u K v (aB rfl)
   | some x=>have U:some [(⟨.ret,a4,ae,ah a3 k,some x⟩:Out)]=some os:=U;rw [Q8] at U;cases U;exact O _ (A _ (aA.2 rfl)) C w' Y J u K v (λy hy=>by cases hy;exact⟨rfl,ax _ rfl⟩)
   cases n
  | true=>exact al id ops ac I n H Q V f m k N w a outs R q F p E i O
 | seq x y ihx ihy=>
  intro ac n H Q V f m k N w a outs R q F p E i O;simp only [tmpsIn,gI] at H;simp only [O8] at n;split at n;rename_i cx cy hx hy;cases n;have i:bnd (xk cx cf I V f m k) (λo=>aT.rec (xk cy cf I V o.env o.m o.marks) (λ_=>some [o]) (some [o]) o.x)=some outs:=i;obtain⟨os,U,hk⟩:=U7 i;refine wpIn_seq (ihx cx hx H.1 _ V f m k N w a os R q F p E U ?_);intro o ho C w' Y J u K v X;obtain⟨ag,a0,A⟩:=hk o ho;obtain⟨M,W,a6,a5,B⟩:=o;rcases qH a0 with⟨Z,h2⟩ | ⟨id,Z,h2⟩ | ⟨Z,h2⟩;obtain rfl:M=.normal:=Z;obtain rfl:B=none:=jW X (by intro e;cases e);refine ihy cy hy H.2 Q V W a6 a5 C w' Y ag J.rm u (by rw [K];exact F) v (E.step J) h2 ?_;intro o2 an af ap ai aa a1 ad a2 a9;exact O o2 (A _ an) af ap ai (J.trans aa) a1 (ad.trans K) a2 a9;obtain rfl:M=.exit id:=Z;obtain rfl:B=none:=jW X (by intro e;cases e);cases h2;exact O _ (A _ (aA.2 rfl)) C w' Y J u K v (aB rfl);obtain rfl:M=.ret:=Z;cases h2;have:=O _ (A _ (aA.2 rfl)) C w' Y J u K v X;cases B<;>exact this
  cases n
 | cond c x y ihx ihy=>
  intro ac n H Q V f m k N w a outs R q F p E i O;simp only [tmpsIn,gI] at H;simp only [O8] at n;split at n;rename_i z cx cy hz hx hy;cases n;obtain⟨t,Z,i⟩:=pI i;obtain⟨e1,_⟩:=y9 (St.start R q) hz;have Z:D8 z [] f=.bool t:=Z;refine wpIn_cond (t:=t) (by rw [e1,Z];rfl) ?_;cases t with
  | true=>exact ihx cx hx H.1 Q V f m k N w a outs R q F p E i O
  | false=>exact ihy cy hy H.2 Q V f m k N w a outs R q F p E i O
  cases n
 | block id x ihx=>
  intro ac n H Q V f m k N w a outs R q F p E i O;simp only [tmpsIn] at H;simp only [O8] at n;split at n;rename_i cx hx;cases n;have i:bnd (xk cx cf I V f m k) (λo=>aT.rec (some [o]) (λid'=>bi (Nat.beq id id') (mH .normal o.env o.m o.marks) (some [o])) (some [o]) o.x)=some outs:=i;obtain⟨os,U,hk⟩:=U7 i;refine wpIn_block (ihx cx hx H _ V f m k N w a os R q F p E U ?_);intro o ho C w' Y J u K v X;obtain⟨ag,a0,A⟩:=hk o ho;obtain⟨M,W,a6,a5,B⟩:=o;rcases qH a0 with⟨Z,h2⟩ | ⟨id',Z,h2⟩ | ⟨Z,h2⟩;obtain rfl:M=.normal:=Z;obtain rfl:B=none:=jW X (by intro e;cases e);cases h2;exact O _ (A _ (aA.2 rfl)) C w' Y J u K v (aB rfl);obtain rfl:M=.exit id':=Z;obtain rfl:B=none:=jW X (by intro e;cases e);show Exit.inBlock id Q (.exit id') Y w';simp only [Exit.inBlock];rw [sG] at h2;split at h2;rename_i he;subst he;cases h2;rw [if_pos rfl];exact O _ (A _ (aA.2 rfl)) C w' Y J u K v (aB rfl);rename_i he;cases h2;rw [if_neg (λe=>he e.symm)];exact O _ (A _ (aA.2 rfl)) C w' Y J u K v (aB rfl);obtain rfl:M=.ret:=Z;cases h2;have:=O _ (A _ (aA.2 rfl)) C w' Y J u K v X;cases B<;>exact this
  cases n
 | loop x ihx=>
  intro ac n H Q V f m k N w a outs R q F p E i O;simp only [tmpsIn] at H;simp only [O8] at n;split at n;rename_i cx hx;cases n;have i:H7 (λf m k=>xk cx cf I V f m k) I f m k=some outs:=i;have ay:∀(j:Nat) (f:T d9) (m:Mem) (k:List Mk) (N:H6) (w:World) (a:Act) (outs:List Out),RM P G N m w.heap->Q6 N (m.nm N) S f a.tmps->nt<=a.tmps.size->eG N m k a.defers->QS N m V r->
    H7 (λf m k=>xk cx cf I V f m k) j f m k=some outs->
    (∀o∈outs,∀C w' Y,Step P G N m w C o.m w'->Q6 C (o.m.nm C) S o.env Y.tmps->Y.tmps.size=a.tmps.size->eG C o.m o.marks Y.defers->QO C o->Q (OV C o) Y w')->
    Code.roundsIn (FR r) 0 P x Q j a w:=by
   intro j;induction j with
   | zero=>intro f m k N w a outs _ _ _ _ _ i;cases i
   | succ j ih=>intro f m k N w a outs R q F p E i O;have i:bnd (xk cx cf I V f m k) (λo=>aT.rec (H7 (λf m k=>xk cx cf I V f m k) j o.env o.m o.marks) (λ_=>some [o]) (some [o]) o.x)=some outs:=i;obtain⟨os,U,hk⟩:=U7 i;rw [roundsIn_succ];refine ihx cx hx H _ V f m k N w a os R q F p E U ?_;intro o ho C w' Y J u K v X;obtain⟨ag,a0,A⟩:=hk o ho;obtain⟨M,W,a6,a5,B⟩:=o;rcases qH a0 with⟨Z,h2⟩ | ⟨id',Z,h2⟩ | ⟨Z,h2⟩;obtain rfl:M=.normal:=Z;obtain rfl:B=none:=jW X (by intro e;cases e);refine ih W a6 a5 C w' Y ag J.rm u (by rw [K];exact F) v (E.step J) h2 ?_;intro o2 an af ap ai aa a1 ad a2 a9;exact O o2 (A _ an) af ap ai (J.trans aa) a1 (ad.trans K) a2 a9;obtain rfl:M=.exit id':=Z;obtain rfl:B=none:=jW X (by intro e;cases e);cases h2;exact O _ (A _ (aA.2 rfl)) C w' Y J u K v (aB rfl);obtain rfl:M=.ret:=Z;cases h2;have:=O _ (A _ (aA.2 rfl)) C w' Y J u K v X;cases B<;>exact this
  exact wpIn_loop_rounds I (ay I f m k N w a outs R q F p E i O);cases n
 | rangeFunc g ps x y ihx ihy=>
  intro ac n H Q V f m k N w a outs R q F p E i O;simp only [tmpsIn,gI] at H;simp only [O8] at n;split at n;rename_i z cx cy hz hx hy;cases n;cases V with
  | none=>
   obtain rfl:r=none:=E.1;have i:MS cf (D8 z [] f) (ps.toList.map λt=>idxOf t S 0) cx cy f (m.new .deferred) (.c m.nx::k)=some outs:=i;have a8:=Laid.new R.ok R.limn .deferred rfl;have ab:Step P G N m w (N.upd m.nx ⟨w.heap.size,0,0,none⟩) (m.new .deferred) (w.alloc (.deferred (some []))):=
    Step.lay (w':=w.alloc (.deferred (some []))) (l:=⟨w.heap.size,0,0,none⟩) R a8 (o:=.deferred (some [])) ⟨rfl,rfl,rfl,rfl⟩ rfl rfl (by show (w.heap.push _)[w.heap.size]?=_;exact bK) (by intro _ _ _ h;cases h)
   have au:(w.alloc (.deferred (some []))).heap.size=w.heap.size+1:=by show (w.heap.push _).size=_;simp
   refine KF ak hz hx hy H.1 H.2 (mark:=[{target:=.collected w.heap.size,args:=#[]}]) (D:=w.heap.size) R ab q F (λfn=>?_) ⟨?_,?_⟩ i O;rw [run_enterLoop_outer,au];rw [(p.step ab).1];simp [qU];intro x hx;rcases X4.1 hx with rfl | hx;exact⟨a8.self,R.limn⟩;exact (p.step ab).2 x hx
  | some l=>obtain rfl:r=some (N l).b:=E.1;have i:nR (m.get l) (λ_ _ _ _ _ _=>MS cf (D8 z [] f) (ps.toList.map λt=>idxOf t S 0) cx cy f m k)=some outs:=i;obtain⟨st,b0,az,av,b1,b2,ar,i⟩:=sS i;obtain⟨L,hL,_⟩:=R.blk l _ ar;refine KF ak hz hx hy H.1 H.2 (mark:=[]) (D:=L.defers) R (Step.refl R) q F (λfn=>?_) (by simpa using p) i O;exact run_enterLoop_inner hL fn a.tmps ps x y
  cases n
 | scope x ihx=>intro ac n;simp only [O8] at n;cases n
 | label l=>intro ac n;simp only [O8] at n;cases n
 | goto l=>intro ac n;simp only [O8] at n;cases n
 | refuse s=>intro ac n _ Q V f m k N w a outs R q F p E i O;simp only [O8,gB] at n;subst n;have i:(none:Option (List Out))=some outs:=i;cases i
end
section
variable {P:Program}{G:Mem}{ι:H6}{n:Nm}{m:Mem}{w:World}{slots:List Nat}
theorem ES (a:List d9)(env:T d9):aW [] a env=match a with | []=>some env | _ :: _=>none:=by cases a<;>rfl
theorem CW (j:Option Nat)(b:List (Option Nat))(a:List d9)(env:T d9):
  aW (j::b) a env=match a with | []=>none | v::a=>aW b a (bD j v env):=by cases a<;>rfl
theorem qV:∀(ps:List Nat) (vs:List d9) (env env1:T d9) (tmps:Array Value),Q6 ι n slots env tmps->X0 n vs->aW (ps.map λt=>idxOf t slots 0) vs env=some env1->
  vs.length=ps.length∧Q6 ι n slots env1 ((ps.zip (o9 ι vs)).foldl (λt (p,v)=>t.setIfInBounds p v) tmps)∧((ps.zip (o9 ι vs)).foldl (λt (p,v)=>t.setIfInBounds p v) tmps).size=tmps.size:=by
 intro ps;induction ps with
 | nil=>
  intro vs env env1 tmps h b a;rw [List.map_nil,ES] at a;cases vs with
  | nil=>cases a;exact⟨rfl,h,rfl⟩
  | cons v vs=>cases a
 | cons p ps ih=>
  intro vs env env1 tmps h b a;rw [Y6,CW] at a;cases vs with
  | nil=>cases a
  | cons v vs=>have f:=h.put (some p) b.1;obtain⟨c,d,e⟩:=ih vs _ env1 _ f b.2 a;exact⟨by simp [c],d,by rw [show ((p::ps).zip (o9 ι (v::vs))).foldl (λt (p,v)=>t.setIfInBounds p v) tmps=(ps.zip (o9 ι vs)).foldl (λt (p,v)=>t.setIfInBounds p v) (tmps.setIfInBounds p (l7 ι v)) from rfl,e];simp⟩
theorem QT (ps:Array Nat)(a:List Value)(tmps:Array Value):
  (ps.zip a.toArray).foldl (λt (p,v)=>t.setIfInBounds p v) tmps=(ps.toList.zip a).foldl (λt (p,v)=>t.setIfInBounds p v) tmps:=by
 rw [← Array.foldl_toList,Array.toList_zip]
theorem Nw {ι':H6}{f:Nm}{L:Loop}{l d:LoopState}{c b:Option aT}{env:T d9}{a:List (Option Nat)}{e bd:P9}(h:vU P ι n L l c env a e bd)(j:∀i,n i->ι' i=ι i)(k:n.le f):
  vU P ι' f {L with state:=d,pending:=b.map exitCode} d b env a e bd:=by
 obtain⟨_,_,g⟩:=h.mono j k;exact⟨rfl,rfl,g⟩
theorem step_loop {ι:H6}{m:Mem}{w:World}(n:RM P G ι m w.heap){l:Nat}(s:m.lim<=l){p:LoopState}{d:Option aT}{env:T d9}{a:List (Option Nat)}{f g:P9}
  (k:m.get l=some (.loop p d env a f g)) {L:Loop} (q:w.heap[(ι l).b]?=some (.loop L)) (j:vU P ι (m.nm ι) L p d env a f g) (e:LoopState) (c:Option aT):
  Step P G ι m w ι (m.set l (.loop e c env a f g)) (w.putObj (ι l).b (.loop {L with state:=e,pending:=c.map exitCode})):=by
 refine Step.set n s k rfl rfl (o:=.loop {L with state:=e,pending:=c.map exitCode}) ⟨rfl,rfl,rfl,rfl⟩ ?_ (by intro _ _ _ h;cases h);exact⟨_,eF q,Nw j (λ_ _=>rfl) (Mem.U2 (λi r=>Mem.lH n.ok k rfl i r) λ_ _=>rfl)⟩
theorem KG {cf:D7}(af:lI P G cf)(j:Nat)(M:∀slots nt r,jM P G slots nt cf r){l:Nat}{args:List d9}{outs:List VM}(h:xq cf j l args m=some outs)(hm:RM P G ι m w.heap)(a6:X0 (m.nm ι) args):
  ∃L:Loop,w.heap[(ι l).b]?=some (.loop L)∧args.length=L.params.size∧
   RoundIn Fence.wide 0 P (ι l).b L.fn ((L.params.zip (o9 ι args).toArray).foldl (λt (p,v)=>t.setIfInBounds p v) L.tmps) L.assign L.body w (O0 P G ι m w outs):=by
 obtain⟨B,h⟩:=iU h;have B:=iI B;obtain⟨st,D,H,params,as,bd,X,h⟩:=sS h;have b5:st=.ready∧D=none∧ob (aW params args H) (λA=>bnd (xk as cf j (some l) A m []) λo=>match o.x,o.marks with
   | .normal,[]=>nR (o.m.get l) λE g u d i z=>match E,g with
    | .ready,none=>bnd (xk bd cf j (some l) o.env (o.m.set l (.loop .busy none u d i z)) []) (roundEnd l)
    | _,_=>none
   | _,_=>none)=some outs:=by
  cases st<;>cases D<;>first | exact⟨rfl,rfl,h⟩ | cases h
 obtain⟨rfl,rfl,h⟩:=b5;obtain⟨A,hp,h⟩:=z8 h;obtain⟨os,b4,hk⟩:=U7 h;obtain⟨L,hL,bg,bf,slots,az,ae,ax,ay,nt,aj,b6,b7⟩:=hm.blk l _ X;rw [ae] at hp;obtain⟨g1,g2,g3⟩:=qV L.params.toList args H A L.tmps az a6 hp;refine⟨L,hL,by rw [g1];simp,?_⟩;rw [QT];have R:m.has l:=⟨_,X,rfl⟩;have ah:QS ι m (some l) (some (ι l).b):=⟨rfl,λl' b2=>by cases b2;exact R⟩;refine roundIn_of_wpIn (F:=Fence.wide) trivial ?_;refine qI af j (M slots nt (some (ι l).b)) L.assign as ax b6 _ (some l) A m [] ι w {tmps:=(L.params.toList.zip (o9 ι args)).foldl (λt (p,v)=>t.setIfInBounds p v) L.tmps,defers:=[]} os hm g2 (by rw [g3];exact aj)
  ⟨rfl,λ_ h=>by cases h⟩ ah b4 ?_
 intro o ho aq w1 a1 y ag ao ai am;obtain⟨os',f,an⟩:=hk o ho;obtain⟨a2,q,C,a0,ab⟩:=o
 have hx:a2=.normal∧a0=[]∧nR (C.get l) (λE g u d i z=>match E,g with
    | .ready,none=>bnd (xk bd cf j (some l) q (C.set l (.loop .busy none u d i z)) []) (roundEnd l)
    | _,_=>none)=some os':=by
  cases a2<;>cases a0<;>first | exact⟨rfl,rfl,f⟩ | cases f
 obtain⟨rfl,rfl,f⟩:=hx;obtain rfl:ab=none:=jW am (by intro e;cases e);obtain⟨E,g,u,d,au,av,O,f⟩:=sS f;have k:E=.ready∧g=none∧bnd (xk bd cf j (some l) q (C.set l (.loop .busy none u d au av)) []) (roundEnd l)=some os':=by cases E<;>cases g<;>first | exact⟨rfl,rfl,f⟩ | cases f
 obtain⟨rfl,rfl,f⟩:=k;obtain⟨b8,al,b0⟩:=U7 f;obtain⟨L2,ac,S⟩:=y.rm.blk l _ O;have a7:C.lim<=l:=by rw [y.lim];exact B
 have Z:(aq l).b=(ι l).b:=by rw [y.ext l R]
 have W:=run_beginRound (P:=P) ac S.state;have k:=step_loop y.rm a7 O ac S .busy none;rw [Z] at W;rw [Z,show ({L2 with state:=.busy,pending:=(none:Option aT).map exitCode}:Loop)={L2 with state:=.busy} from by rw [← S.pending]] at k;refine⟨_,W,?_⟩;have T:=y.trans k;refine qI af j (M slots nt (some (ι l).b)) L.body bd ay b7 _ (some l) q _ [] aq _ a1 b8 k.rm (k.env ag) (by rw [ao];show nt<=Array.size _;rw [g3];exact aj)
  (ai.step k) (ah.step T) al ?_
 intro o3 b3 ar w3 a3 U ba be bb bc;obtain⟨os3,c,a9⟩:=b0 o3 b3;obtain⟨x3,b9,m3,k3,aa⟩:=o3;have K:=T.trans U;have b1:k3=[]∧aa=none∧nR (m3.get l) (λst D H params assign body=>match st,D with
  | .busy,none=>match x3 with
   | .normal=>one (.bool true) (m3.set l (.loop .ready none H params assign body))
   | x=>one (.bool false) (m3.set l (.loop .done (some x) H params assign body))
  | _,_=>none)=some os3:=by
  cases k3 with
  | nil=>
   cases aa with
   | none=>exact⟨rfl,rfl,c⟩
   | some=>cases c
  | cons=>cases aa<;>cases c
 obtain⟨rfl,rfl,c⟩:=b1;obtain⟨V,s,I,n,a4,a5,Q,c⟩:=sS c;obtain⟨L4,ad,ak⟩:=U.rm.blk l _ Q;have a8:m3.lim<=l:=by rw [K.lim];exact B
 have ap:(ar l).b=(ι l).b:=by rw [K.ext l R]
 have aw:∀(b:Bool) (a:Option aT),os3=[⟨.bool b,m3.set l (.loop (if b then .ready else .done) a I n a4 a5)⟩]->(a.map exitCode).isNone=b->
   ∃v w',(Instr.endRound (ι l).b (a.map exitCode)).run P w3=.ok v w'∧O0 P G ι m w outs (.returned v) w':=by
  intro b a h1 h2;have N:=run_endRound (P:=P) (a.map exitCode) ad;have Y:=step_loop U.rm a8 Q ad ak (if b then .ready else .done) a;rw [ap] at N Y;rw [h2] at N;refine⟨_,_,N,.inl ⟨_,rfl,⟨.bool b,m3.set l (.loop (if b then .ready else .done) a I n a4 a5)⟩,an _ ?_,ar,K.trans Y,trivial,by simp [l7]⟩⟩;exact a9 _ (by rw [h1];exact aA.2 rfl)
 have J:∀(b:Bool) (a:Option aT),(V=.busy∧s=none∧one (.bool b) (m3.set l (.loop (if b then .ready else .done) a I n a4 a5))=some os3)->(a.map exitCode).isNone=b->
   ∃v w',(Instr.endRound (ι l).b (a.map exitCode)).run P w3=.ok v w'∧O0 P G ι m w outs (.returned v) w':=by
  rintro b a ⟨_,_,h⟩ h2;exact aw b a (by cases h;rfl) h2
 cases x3 with
 | normal=>exact J true none (by cases V<;>cases s<;>first | exact⟨rfl,rfl,c⟩ | cases c) rfl
 | exit id=>exact J false (some (.exit id)) (by cases V<;>cases s<;>first | exact⟨rfl,rfl,c⟩ | cases c) rfl
 | ret=>exact J false (some .ret) (by cases V<;>cases s<;>first | exact⟨rfl,rfl,c⟩ | cases c) rfl
theorem QU {r:ResultVar}{l:List ResultVar}{rs:List nH}(h:AY P slots (r::l)=some rs):
  ∃x rs',rs=x::rs'∧AY P slots l=some rs'∧((∃t j,r=.tmp t∧idxOf t slots 0=some j∧x=.tmp j)∨∃t ty j s,r=.cell t ty∧idxOf t slots 0=some j∧partT P ty=some s∧x=.cell j s):=by
 cases r with
 | tmp t=>simp only [AY] at h;split at h;cases h;exact⟨_,_,rfl,by assumption,.inl ⟨t,_,rfl,by assumption,rfl⟩⟩;cases h
 | cell t ty=>simp only [AY] at h;split at h;cases h;exact⟨_,_,rfl,by assumption,.inr ⟨t,ty,_,_,rfl,by assumption,by assumption,rfl⟩⟩;cases h
theorem Ij (r:nH)(rs:List nH)(env:T d9)(m:Mem):results (r::rs) env m=ob (match r with
  | .tmp j=>T.get env j
  | .cell j size=>ob (T.get env j) λp=>eP p λid off=>R4 (m.get id) λrs n rows=>match size with
   | none=>cell1 rs n rows off
   | some k=>ob (iO rs n rows off k) λl=>some (.agg l)) λv=>ob (results rs env m) λl=>some (v::l):=rfl
def Xv (tmps:Array Value):ResultVar->Sem Value
 | .tmp t=>pure (tmps.getD t undef)
 | .cell a t=>do loadVar t (← asAddr (tmps.getD a undef))
theorem CX (a:Func)(tmps:Array Value):Go.results a tmps=(do
  let vs ← a.results.mapM (Xv tmps)
  pure (if h:vs.size=1 then vs[0] else .tuple vs)):=by
 unfold Go.results;congr 1
theorem Ny (ad:Addr):asAddr (.pointer (some ad))=pure ad:=rfl
theorem vB (B:RM P G ι m w.heap){env:T d9}{tmps:Array Value}(d:Q6 ι (m.nm ι) slots env tmps):∀(l:List ResultVar) (rs:List nH),AY P slots l=some rs->∀vs,results rs env m=some vs->
  X0 (m.nm ι) vs∧(l.mapM (Xv tmps):Sem (List Value)).run P w=.ok (o9 ι vs) w:=by
 intro l;induction l with
 | nil=>intro rs e vs a;simp only [AY,gB] at e;subst e;have a:some []=some vs:=a;cases a;exact⟨trivial,by simp [o9]⟩
 | cons r l ih=>
  intro rs e vs a;obtain⟨x,k,rfl,h,C⟩:=QU e;rw [Ij] at a;obtain⟨v,b,a⟩:=z8 a;obtain⟨n,A,a⟩:=z8 a;cases a;obtain⟨q,y⟩:=ih k h n A;rcases C with⟨t,j,rfl,hj,rfl⟩ | ⟨t,ty,j,s,rfl,hj,hs,rfl⟩;obtain⟨_,u,c,o,f⟩:=d.val t j hj;have b:env.get j=some v:=b;rw [b] at c;cases c;refine⟨⟨o,q⟩,?_⟩;simp only [ajW,Xv,J3,Y2,gM,y,f,o9];obtain⟨p,b,g⟩:=z8 b;obtain⟨id,i,rfl,g⟩:=cZ g;obtain⟨_,u,c,o,f⟩:=d.val t j hj;rw [b] at c;cases c;obtain⟨D,E⟩:=uX hs B g;refine⟨⟨E,q⟩,?_⟩;have z:tmps.getD t undef=.pointer (some (ι.at id i)):=by rw [f];simp [l7]
  simp only [ajW,Xv,J3,Y2,gM,y,z,o9,Ny,D]
theorem FQ (l:List d9):l7 ι (result l)=(if h:(o9 ι l).toArray.size=1 then (o9 ι l).toArray[0] else .tuple (o9 ι l).toArray):=by
 match l with
 | []=>simp [result,l7,o9]
 | [v]=>simp [result,o9]
 | v::u::l=>simp [result,l7,o9]
theorem QV {l:List d9}(h:X0 n l):(result l).lt n:=by
 match l with
 | []=>exact trivial
 | [v]=>exact h.1
 | v::u::l=>exact h
theorem Xw {β:Type}{b:Option N7}{k:Option β}{r:β}(h:Tj b k=some r):b=some .deferred∧k=some r:=by unfold Tj at h;split at h;exact⟨rfl,h⟩;cases h
def wz (ι:H6):Option d9->FrameMode
 | none=>.returning
 | some x=>.panicking [{v:=l7 ι x,recovered:=false}]
theorem TY {ι:H6}{a:Option d9}:wz ι a≠.run:=by cases a<;>simp [wz]
def zq (ι:H6)(m:Mem)(md:Option d9):Prop:=∀x,md=some x->x.lt (m.nm ι)
theorem zq.step {ι ι':H6}{m m':Mem}{w w':World}{md:Option d9}(h:zq ι m md)(a:Step P G ι m w ι' m' w'):zq ι' m' md∧wz ι' md=wz ι md:=by
 refine⟨λx b=>d9.L6 (Mem.U2 a.has a.ext) _ (h x b),?_⟩;cases md with
 | none=>rfl
 | some x=>simp only [wz,a.l7 (h x rfl)]
def Xx (P:Program)(G:Mem)(dcf:iR):Prop:=∀{f:FuncId} {args:List d9} {md:Option d9} {m:Mem} {outs:List (Mem×Option d9)},dcf f args md m=some outs->
 zm P f∧∀{ι:H6} {w:World},RM P G ι m w.heap->X0 (m.nm ι) args->zq ι m md->
  CallsDIn Fence.wide 0 P f (o9 ι args).toArray (wz ι md) w λe u' w'=>∃v,e=.returned v∧∃r∈outs,∃ι',Step P G ι m w ι' r.1 w'∧zq ι' r.1 r.2∧settle u'=wz ι' r.2
theorem Ag {q:iR}(L:Xx P G q){J:Func}{rs:List nH}(N:AY P slots J.results.toList=some rs){I:H6}{R:Mem}{S:World}{outs:List VM}:
  ∀(k:List Mk) (m:Mem) (ι:H6) (w:World) (env:T d9) (tmps:Array Value) (ds:List Deferred) (md:Option d9) (vs:List VM),
  Step P G I R S ι m w->Q6 ι (m.nm ι) slots env tmps->eG ι m k ds->zq ι m md->BZ q (vQ rs env) k md m=some vs->(∀v∈vs,v∈outs)->
  LeavesInM Fence.wide 0 P J tmps (O0 P G I R S outs) ds (wz ι md) w:=by
 intro k;induction k with
 | nil=>
  intro m ι w env tmps ds md vs j z s A g n;rw [s.1];have g:vQ rs env md m=some vs:=g;show LeavesIn Fence.wide 0 P J tmps _ [] (wz ι md) w;cases md with
  | none=>have g:ob (results rs env m) (λl=>one (result l) m)=some vs:=g;obtain⟨l,W,g⟩:=z8 g;cases g;obtain⟨U,V⟩:=vB j.rm z _ rs N l W;refine⟨l7 ι (result l),?_,.inl ⟨_,rfl,⟨result l,m⟩,n _ (aA.2 rfl),ι,j,QV U,rfl⟩⟩;rw [FQ,CX,aiL];simp only [J3,map_eq_pure_bind,bind_assoc,pure_bind];rw [V];simp
  | some x=>have g:some [(⟨.ng x,m⟩:VM)]=some vs:=g;cases g;exact .inr ⟨_,n _ (aA.2 rfl),x,ι,rfl,j,A x rfl,rfl⟩
 | cons y k ih=>
  intro m ι w env tmps ds md vs j z s A g n;have u:eG ι m k (k.map (qU ι)):=⟨rfl,λi Z=>s.2 i (Y1 _ Z)⟩;have Q:=s.2 y (by simp);rw [s.1];refine⟨TY,?_⟩;cases y with
  | c id=>
   have g:Tj (m.get id) (BZ q (vQ rs env) k md (m.set id .dead))=some vs:=g;obtain⟨B,g⟩:=Xw g;have K:w.heap[(ι id).b]?=some (.deferred (some [])):=j.rm.blk id _ B;have p:Step P G ι m w ι (m.set id .dead) (w.putObj (ι id).b (.deferred none)):=
    Step.set j.rm Q.2 B rfl rfl (o:=.deferred none) ⟨rfl,rfl,rfl,rfl⟩ trivial (by intro _ _ _ h;cases h)
   refine .inl ⟨(ι id).b,_,rfl,run_takeDeferred K,?_⟩;exact ih (m.set id .dead) ι _ env tmps _ md vs (j.trans p) (p.env z) (u.step p) (A.step p).1 g n
  | d v args=>
   obtain⟨⟨F,a,b,rfl⟩,M,C⟩:=Q;have g:bnd (Tk q (.func F a b) args md m) (λr=>BZ q (vQ rs env) k r.2 r.1)=some vs:=g;obtain⟨os,t,hk⟩:=U7 g;cases F with
   | func f=>have t:q f (ah a (ah args b)) md m=some os:=t;rw [Q8,Q8] at t;obtain⟨Y,D⟩:=L t;obtain⟨_,X,K⟩:=M;refine .inr ⟨(λh=>by cases h),.func f,(o9 ι b).toArray,f,(o9 ι (a++(args++b))).toArray,rfl,?_,(λ_ _=>trivial),?_⟩;show (invoke (.fn (.func f) (o9 ι b).toArray) ((o9 ι a).toArray++(o9 ι args).toArray)).run P w=_;simp [invoke,lJ Y,je];refine CallsDIn.mono (D j.rm (iq X (iq C K)) A) ?_;rintro e u' w' ⟨v,rfl,r,hr,ι',hst',hmd',hset⟩;obtain⟨O,H,E⟩:=hk r hr;show LeavesInM Fence.wide 0 P J tmps _ (k.map (qU ι)) (settle u') w';rw [hset];exact ih r.1 ι' w' env tmps _ r.2 O (j.trans hst') (hst'.env z) (u.step hst') hmd' H (λv g=>n v (E v g))
   | _=>cases t
structure oO (P:Program)(f:FuncId)(sf:M9):Prop where
 ok:zm P f
 is:∃(slots:List Nat) (fn:Func) (c:Code) (ac:P9) (rs:List nH),P.funcs[f]?=some fn∧fn.body=some c∧O8 P slots c=some ac∧AY P slots fn.results.toList=some rs∧
  tmpsIn fn.ntmps c=true∧(∀t∈slots,t<fn.ntmps)∧slots.length<2^60∧
  sf.args=(List.range (fn.params.size+fn.nfree)).map (λt=>idxOf t slots 0)∧sf.nslots=slots.length∧sf.results=rs∧sf.code=xk ac∧∀c',sf.rcode=some c'->c'=ac
theorem Ua:∀(l:List Value) (k:Nat) (A:Array Value) (i:Nat),(((List.range' k l.length).zip l).foldl (λt (p,v)=>t.setIfInBounds p v) A).size=A.size∧
  (((List.range' k l.length).zip l).foldl (λt (p,v)=>t.setIfInBounds p v) A)[i]?=if k<=i∧i<k+l.length∧i<A.size then l[i-k]? else A[i]?:=by
 intro l;induction l with
 | nil=>intro k A i;simp;omega
 | cons v l ih=>
  intro k A i;have e:((List.range' k (v::l).length).zip (v::l)).foldl (λt (p,v)=>t.setIfInBounds p v) A=((List.range' (k+1) l.length).zip l).foldl (λt (p,v)=>t.setIfInBounds p v) (A.setIfInBounds k v):=by simp [List.range'_succ]
  obtain⟨a,b⟩:=ih (k+1) (A.setIfInBounds k v) i;rw [e];refine⟨by rw [a];simp,?_⟩;rw [b];simp only [ajD,Y3];by_cases hk:i=k;subst hk;rw [if_neg (by omega)];by_cases hs:i<A.size;rw [if_pos (by omega),X3 hs];simp;rw [if_neg (by omega),agd (adB hs)];rw [W9 (λe=>hk e.symm)];by_cases hc:k+1<=i∧i<k+1+l.length∧i<A.size;rw [if_pos hc,if_pos (by omega),show i-k=(i-(k+1))+1 from by omega];simp;rw [if_neg hc,if_neg (by omega)]
theorem Nz (a:List Value)(b:Nat):((List.range a.length).zip a).foldl (λt (p,v)=>t.setIfInBounds p v) (Array.replicate (max a.length b) undef)=a.toArray++Array.replicate (b-a.toArray.size) undef:=by apply ac2;intro i;rw [agl,(Ua a 0 _ i).2];simp only [Array.size_replicate,aeN,true_and,Z8,ajJ];by_cases h:i<a.length;rw [if_pos (by omega),aic (by simpa using h)];simp;rw [if_neg (by omega),Array.getElem?_append_right (by simpa using h)];simp only [abH,aey];by_cases h2:i<max a.length b;rw [if_pos h2,if_pos (by omega)];rw [if_neg h2,if_neg (by omega)]
theorem FT {a:Func}(l:∀t∈slots,t<a.ntmps)(n:slots.length<2^60){args:List d9}{env:T d9}(b:X0 (m.nm ι) args)
  (hp:aW ((List.range (a.params.size+a.nfree)).map λt=>idxOf t slots 0) args (T.rep .undef slots.length .e 0)=some env):
  args.length=a.params.size+a.nfree∧Q6 ι (m.nm ι) slots env ((o9 ι args).toArray++Array.replicate (a.ntmps-(o9 ι args).toArray.size) undef)∧
   a.ntmps<=((o9 ι args).toArray++Array.replicate (a.ntmps-(o9 ι args).toArray.size) undef).size:=by
 have c:Q6 ι (m.nm ι) slots (T.rep .undef slots.length .e 0) (Array.replicate (max (o9 ι args).length a.ntmps) undef):=by
  refine⟨by have:=T.MZ d9.undef slots.length .e 0 .e;simpa using this,n,λt j o=>?_⟩;have d:=sj o;have f:t∈slots:=by have:=d.2.2;exact U9 this
  have:=l t f;refine⟨by simp;omega,.undef,?_,trivial,?_⟩;rw [T.OI _ _ _ _ .e,if_neg (by omega),if_pos d.2.1];rw [Hl,abH];rw [jK];split<;>rfl
 obtain⟨h,i,k⟩:=qV (List.range (a.params.size+a.nfree)) args _ env _ c b hp;rw [aga] at h;have g:=Nz (o9 ι args) a.ntmps;rw [Q9,h] at g;rw [Q9,h] at i k;rw [g] at i k;refine⟨h,i,?_⟩;rw [Array.size_append,Array.size_replicate];omega
theorem KH {cf:D7}(E:lI P G cf){v:iR}(y:Xx P G v)(d:Nat)(u:∀slots nt r,jM P G slots nt cf r){f:FuncId}{sf:M9}(hf:oO P f sf){args:List d9}{outs:List VM}(h:ko cf v d sf args m=some outs)(hm:RM P G ι m w.heap)(t:X0 (m.nm ι) args):
  CallsIn Fence.wide 0 P f (o9 ι args).toArray w (O0 P G ι m w outs):=by
 obtain⟨_,slots,F,c,M,rs,U,V,W,H,X,Y,Z,N,O,Q,R,_⟩:=hf;obtain⟨D,I,h⟩:=z8 h;obtain⟨os,z,hk⟩:=U7 h;rw [N,O] at I;obtain⟨g1,S,T⟩:=FT Y Z t I;refine callsIn_of_wp_marks U V trivial ?_;rw [R] at z;refine qI E d (u slots F.ntmps none) c M W X _ none D m [] ι w {tmps:=(o9 ι args).toArray++Array.replicate (F.ntmps-(o9 ι args).toArray.size) undef,defers:=[]} os hm S T ⟨rfl,λ_ h=>by cases h⟩ ⟨rfl,λ_ h=>by cases h⟩ z ?_;intro o ho B L C k g J i j;obtain⟨K,A,l⟩:=hk o ho;obtain⟨s,b,q,p,a⟩:=o;rw [Q] at A;rcases qH A with⟨n,hl⟩ | ⟨id,n,hl⟩ | ⟨n,hl⟩;obtain rfl:s=.normal:=n;obtain rfl:a=none:=jW j (by intro e;cases e);exact Ag y H p q B L b C.tmps C.defers none K k g i (λx n=>by cases n) hl l;cases hl;obtain rfl:s=.ret:=n;have:=Ag y H p q B L b C.tmps C.defers a K k g i (λx n=>(j x n).2) hl l;cases a<;>exact this
end
inductive zu (ops:Array Oper):Nat->Nat->Prop
 | edge {i:Nat} {o:Oper} {e:Edge}:ops[i]?=some o->e∈o.after->Region.binds .any e=true->zu ops i e.on
 | more {i:Nat} {o:Oper} {e:Edge} {j:Nat}:ops[i]?=some o->e∈o.after->Region.binds .any e=true->zu ops e.on j->zu ops i j
theorem zu.trans {ops:Array Oper}{i j k:Nat}(h:zu ops i j)(g:zu ops j k):zu ops i k:=by
 induction h with
 | edge h1 h2 h3=>exact .more h1 h2 h3 g
 | more h1 h2 h3 _ ih=>exact .more h1 h2 h3 (ih g)
theorem QW (a:List Nat)(j:Nat):∀(l:List Edge) (s:Nat),Nat.testBit (l.foldl (λs x=>if Region.binds .any x then s ||| (1 <<< x.on) ||| (a.getD x.on 0) else s) s) j=true->
  Nat.testBit s j=true∨∃e∈l,Region.binds .any e=true∧(j=e.on∨Nat.testBit (a.getD e.on 0) j=true):=by
 intro l;induction l with
 | nil=>intro s h;exact .inl h
 | cons e l ih=>
  intro s h;rw [ajM] at h;rcases ih _ h with h | ⟨e',h1,h2⟩;cases hb:Region.binds .any e with
  | false=>rw [hb] at h;exact .inl (by simpa using h)
  | true=>rw [hb] at h;simp only [if_true,Nat.testBit_or,aeE] at h;rcases h with (h | h) | h;exact .inl h;refine .inr ⟨e,by simp,hb,.inl ?_⟩;rw [Nat.one_shiftLeft,Nat.testBit_two_pow] at h;exact (of_decide_eq_true h).symm;exact .inr ⟨e,by simp,hb,.inr h⟩
  exact .inr ⟨e',Y1 _ h1,h2⟩
theorem dO (ops:Array Oper)(i j:Nat)(h:MW (masks ops.toList) i j=true):zu ops i j:=by
 have d:∀(l:List Oper) (a:List Nat),(∀k,k<l.length->ops[a.length+k]?=l[k]?)->(∀i j,Nat.testBit (a.getD i 0) j=true->zu ops i j)->
   ∀i j,Nat.testBit ((l.foldl (λa o=>a ++ [bitsOf o.after a]) a).getD i 0) j=true->zu ops i j:=by
  intro l;induction l with
  | nil=>intro a _ h;exact h
  | cons o l ih=>
   intro a c h;rw [ajM];refine ih _ (λk f=>?_) ?_;have:=c (k+1) (by simpa using f);simpa [aez,agp 1] using this;intro i j b;by_cases hi:i<a.length;refine h i j ?_;simpa [X6,Y4 hi] using b;by_cases hi2:i=a.length;subst hi2;have b:Nat.testBit (bitsOf o.after a) j=true:=by simpa [X6] using b
   have g:ops[a.length]?=some o:=by have:=c 0 (by simp);simpa using this
   rcases QW a j o.after.toList 0 b with h0 | ⟨e,h1,h2,h3⟩;simp at h0;rcases h3 with rfl | h3;exact .edge g (by simpa using h1) h2;exact .more g (by simpa using h1) h2 (h _ _ h3);have:(a ++ [bitsOf o.after a]).getD i 0=0:=by rw [X6,aeF (by simp;omega)];rfl
   rw [this] at b;simp at b
 refine d ops.toList [] (λk f=>by simp) (λi j b=>by simp at b) i j h
def jf (ops:Array Oper)(listed:Array Bool):Prop:=∀i o,listed.getD i false=true->ops[i]?=some o->∀e∈o.after,Region.binds .any e=true->listed.getD e.on false=true
theorem zu.listed {ops:Array Oper}{listed:Array Bool}(c:jf ops listed){i j:Nat}(h:zu ops i j):
  (∀o,ops[i]?=some o->∀e∈o.after,Region.binds .any e=true->listed.getD e.on false=true)->listed.getD j false=true:=by
 induction h with
 | edge ho he hb=>intro a;exact a _ ho _ he hb
 | more ho he hb _ ih=>intro a;exact ih λd b=>c _ d (a _ ho _ he hb) b
theorem wB:∀{l:List Nat},JU l=true->l.Nodup
 | [],_=>List.nodup_nil
 | x::l,h=>by simp only [JU,gI,Bool.not_eq_true'] at h;refine aew.2 ⟨λhx=>?_,wB h.2⟩;have:=h.1;simp [hx] at this
theorem KI {ms:List Nat}{ops:Array Oper}:∀{l before:List (Nat×Inst)},tY ms ops l before=true->∀p y,l[p]?=some y->rX ms ops y.1 y.2 ((l.take p).reverse++before)=true
 | [],_,_,p,y,hp=>by simp at hp
 | z::l,before,h,p,y,hp=>by
  simp only [tY,gI] at h;cases p with
  | zero=>simp at hp;subst hp;simpa using h.1
  | succ p=>have:=KI h.2 p y (by simpa using hp);simpa using this
structure DS where
 ls:List d9
 env:T d9
 m:Mem
 gs:List Mem
def RdB (o:MO)(g:Option (N9×Bool))(s:DS)(v:d9):Prop:=
 g=none∧∃y id off len cp,o=.bytesStr y∧D8 y s.ls s.env=.slice id off len cp∧isVoid ((hd s.m s.gs).get id)=true∧isCells (s.m.get id)=true∧dX (D8 y) s.ls s.env s.m=some v
def DStep (cf:D7)(b:Nat)(x:Nat×Inst)(s s':DS):Prop:=
 ∃v,s'.ls=v::s.ls∧s'.env=bD x.2.dst v s.env∧match x.2.op with
  | .p o=>Eu x.2.guard (lX o) s.ls s.env=some v∧s'.m=s.m∧s'.gs=s.gs
  | .r o=>((vO x.2.guard (qo o) s.ls s.env (hd s.m s.gs)=some v∧stable (vO x.2.guard (qo o)) s.ls s.env v x.1 (tl s.gs)=true)∨RdB o x.2.guard s v)∧True∧s'.m=s.m∧s'.gs=s.gs
  | .a o=>∃r,AQ x.2.guard (uS o) s.ls s.env (b+x.1)=some r∧v=r.1∧isVoid (s.m.get (b+x.1))=true∧jR (b+x.1) s.gs=true∧s'.m=JM s.m (b+x.1) r.2∧s'.gs=s.gs
  | .e o=>GZ x.2.guard (lY o) cf s.ls s.env s.m=some [⟨v,s'.m⟩]∧s'.gs=s'.m::s.gs∧¬ ∃x,v=.ng x
theorem Xy {α β:Type}{x:Option (List α)}{f:α->Option β}{r:β}(h:MR x f=some r):∃a,x=some [a]∧f a=some r:=by
 cases x with
 | none=>cases h
 | some l=>match l,h with
  | [a],h=>exact⟨a,rfl,h⟩
  | [],h=>cases h
  | _ :: _ :: _,h=>cases h
def GStep (b:Nat)(x:Nat×Inst)(s s':DS):Prop:=
 ∃v,s'.ls=v::s.ls∧s'.env=bD x.2.dst v s.env∧s'.m=s.m∧s'.gs=(if L9 x.2=true then s'.m::s.gs else s.gs)∧∀o,x.2.op=.a o->AQ x.2.guard (uS o) s.ls s.env (b+x.1)=none
def KJ (cf:D7)(b:Nat)(x:Nat×Inst)(s s':DS):Prop:=DStep cf b x s s'∨GStep b x s s'
theorem QX {cf:D7}{b:Nat}{x:Nat×Inst}{j:GF}{k:DC}{s:DS}{outs:List EM}(h:ab3 x.1 x.2.op x.2.dst x.2.guard j k cf b s.ls s.env s.m s.gs=some outs):
  (∃s',DStep cf b x s s'∧k cf b s'.ls s'.env s'.m s'.gs=some outs)∨
  ∃eo y m',x.2.op=.e eo∧GZ x.2.guard (lY eo) cf s.ls s.env s.m=some [⟨.ng y,m'⟩]∧∃es,j b (.undef::s.ls) (bD x.2.dst .undef s.env) s.m (s.m::s.gs) [s.env]=some es∧outs=rT m' y es:=by
 obtain⟨c,op,dst,guard⟩:=x;unfold DStep;cases op with
 | p o=>obtain⟨v,g,h⟩:=z8 h;exact .inl ⟨⟨v::s.ls,bD dst v s.env,s.m,s.gs⟩,⟨v,rfl,rfl,g,rfl,rfl⟩,h⟩
 | r o=>
  have d:∀{f:RF},f=vO guard (qo o)->fD f c (bD dst) k cf b s.ls s.env s.m s.gs=some outs->(∃s':DS,(∃v,s'.ls=v::s.ls∧s'.env=bD dst v s.env∧((vO guard (qo o) s.ls s.env (hd s.m s.gs)=some v∧stable (vO guard (qo o)) s.ls s.env v c (tl s.gs)=true)∨RdB o guard s v)∧True∧s'.m=s.m∧s'.gs=s.gs)∧k cf b s'.ls s'.env s'.m s'.gs=some outs):=by rintro f rfl h;obtain⟨v,g,h⟩:=z8 h;obtain⟨i,h⟩:=D5 h;exact⟨⟨v::s.ls,bD dst v s.env,s.m,s.gs⟩,⟨v,rfl,rfl,.inl ⟨g,i⟩,trivial,rfl,rfl⟩,h⟩
  change ab2 c o dst guard k cf b s.ls s.env s.m s.gs=some outs at h
  unfold ab2 at h;split at h;rename_i y;unfold afb at h;split at h;rename_i id n l q u;cases hvo:isVoid ((hd s.m s.gs).get id) with
  | false=>rw [hvo] at h;exact .inl (d rfl h)
  | true=>rw [hvo] at h;obtain⟨g,h⟩:=D5 h;obtain⟨v,i,h⟩:=z8 h;exact .inl ⟨⟨v::s.ls,bD dst v s.env,s.m,s.gs⟩,⟨v,rfl,rfl,.inr ⟨rfl,y,id,n,l,q,rfl,u,hvo,g,i⟩,trivial,rfl,rfl⟩,h⟩
  exact .inl (d rfl h);exact .inl (d rfl h)
 | a o=>obtain⟨r,g,h⟩:=z8 h;obtain⟨i,h⟩:=D5 h;obtain⟨t,h⟩:=D5 h;exact .inl ⟨⟨r.1::s.ls,bD dst r.1 s.env,JM s.m (b+c) r.2,s.gs⟩,⟨r.1,rfl,rfl,r,g,rfl,i,t,rfl,rfl⟩,h⟩
 | e o=>obtain⟨r,g,h⟩:=Xy h;obtain⟨v,m'⟩:=r;have h:bW v (λx=>ob (j b (.undef::s.ls) (bD dst .undef s.env) s.m (s.m::s.gs) [s.env]) λes=>some (rT m' x es)) (k cf b (v::s.ls) (bD dst v s.env) m' (m'::s.gs))=some outs:=h;by_cases hx:∃x,v=.ng x;obtain⟨x,rfl⟩:=hx;have h:ob (j b (.undef::s.ls) (bD dst .undef s.env) s.m (s.m::s.gs) [s.env]) (λes=>some (rT m' x es))=some outs:=h;obtain⟨es,i,h⟩:=z8 h;cases h;exact .inr ⟨o,x,m',rfl,g,es,i,rfl⟩;rw [OU hx] at h;exact .inl ⟨⟨v::s.ls,bD dst v s.env,m',m'::s.gs⟩,⟨v,rfl,rfl,g,rfl,hx⟩,h⟩
def Waits (x:Nat×Inst)(p:Nat)(A:Nat->Prop):Prop:=(∃o,x.2.op=.e o)∨∃k,(N9.loc k∈BM x.2.op∨∃wt,x.2.guard=some (.loc k,wt))∧A k
theorem wC {d:List Bool}{i:Inst}(h:rQ d i=true):∃k,(N9.loc k∈BM i.op∨∃wt,i.guard=some (.loc k,wt))∧d.getD k false=true:=by
 have b:∀y,Tg d y=true->∃k,y=.loc k∧d.getD k false=true:=λy a=>by
  cases y with
  | loc k=>exact⟨k,rfl,a⟩
  | slot j=>cases a
  | con c=>cases a
 unfold rQ at h;rcases Bool.or_eq_true_iff.1 h with h | h;obtain⟨y,a,h⟩:=List.any_eq_true.1 h;obtain⟨k,rfl,e⟩:=b y h;exact⟨k,.inl a,e⟩;cases hg:i.guard with
 | none=>rw [hg] at h;cases h
 | some q=>obtain⟨y,wt⟩:=q;rw [hg] at h;obtain⟨k,rfl,e⟩:=b y h;exact⟨k,.inr ⟨wt,rfl⟩,e⟩
def Bc (l:List (Nat×Inst))(V:Nat->d9)(L:Nat->Bool)(a:T d9):Nat->T d9
 | 0=>a
 | k+1=>match l[k]? with
  | some x=>if L k then bD x.2.dst (V k) (Bc l V L a k) else Bc l V L a k
  | none=>Bc l V L a k
theorem FU (x:Nat×Inst)(l:List (Nat×Inst))(V:Nat->d9)(L:Nat->Bool)(a:T d9):∀k,Bc (x::l) V L a (k+1)=Bc l (λp=>V (p+1)) (λp=>L (p+1)) (if L 0 then bD x.2.dst (V 0) a else a) k
 | 0=>rfl
 | k+1=>by
  rw [Bc,FU x l V L a k];show (match l[k]? with | some x=>_ | none=>_)=_
  rw [Bc]
theorem KL (f:T d9->T d9):∀l,Tf f l=l.map f
 | []=>rfl
 | x::l=>by show f x::Tf f l=_;rw [KL f l];rfl
theorem KM (m:Mem)(x:d9):∀es,rT m x es=es.map λe=>⟨e,m,some x,[]⟩
 | []=>rfl
 | e::es=>by show _::rT m x es=_;rw [KM m x es];rfl
theorem Ub {w:Bool}{f:T d9->T d9}{es:List (T d9)}{a:T d9}(h:a∈es):a∈Sy w f es:=by
 unfold Sy;cases w with
 | false=>exact h
 | true=>show a∈ah es _;rw [Q8];exact abX _ h
theorem Xz {j:Option Nat}{v:d9}{es:List (T d9)}{a:T d9}(h:a∈es):bD j v a∈Sy j.isSome (bD j v) es:=by
 unfold Sy;cases j with
 | none=>exact h
 | some j=>show _∈ah es _;rw [Q8,KL];exact ac0 _ (aeX h)
theorem Uc {cf:D7}{b:Nat}:∀(l:List (Nat×Inst)) (ds:List Bool) (s:DS) (es0 es:List (T d9)),rR l ds b s.ls s.env s.m s.gs es0=some es->
  ∃(S:Nat->DS) (D:Nat->Bool),S 0=s∧(∀p x,l[p]?=some x->((D p=false∧(x.2.dst.isSome=true->zU ((S (p+1)).ls.headD .undef)=true)∧DStep cf b x (S p) (S (p+1)))∨
   (D p=true∧GStep b x (S p) (S (p+1))∧Waits x p λk=>(∃q,q<p∧k=p-1-q∧D q=true)∨(p<=k∧ds.getD (k-p) false=true))))∧
   ∀L:Nat->Bool,(∀p,L p=true->D p=false)->∀a∈es0,Bc l (λp=>(S (p+1)).ls.headD .undef) L a l.length∈es:=by
 intro l;induction l with
 | nil=>intro ds s es0 es h;have h:some es0=some es:=h;cases h;exact⟨λ_=>s,λ_=>false,rfl,(λp x A=>by simp at A),λL _ a i=>i⟩
 | cons x l ih=>
  intro ds s es0 es h;have c:∀(t:Bool) (v:d9) (w:DS) (g:List (T d9)),rR l (t::ds) b w.ls w.env w.m w.gs g=some es->w.ls.headD .undef=v->(∀a∈es0,a∈g∧(t=false->bD x.2.dst v a∈g))->((t=false∧(x.2.dst.isSome=true->zU v=true)∧DStep cf b x s w)∨(t=true∧GStep b x s w∧Waits x 0 λk=>ds.getD k false=true))->
    ∃(S:Nat->DS) (D:Nat->Bool),S 0=s∧(∀p y,(x::l)[p]?=some y->((D p=false∧(y.2.dst.isSome=true->zU ((S (p+1)).ls.headD .undef)=true)∧DStep cf b y (S p) (S (p+1)))∨
     (D p=true∧GStep b y (S p) (S (p+1))∧Waits y p λk=>(∃q,q<p∧k=p-1-q∧D q=true)∨(p<=k∧ds.getD (k-p) false=true))))∧
     ∀L:Nat->Bool,(∀p,L p=true->D p=false)->∀a∈es0,Bc (x::l) (λp=>(S (p+1)).ls.headD .undef) L a (x::l).length∈es:=by
   intro t v w g N u C B;obtain⟨S,D,I,K,M⟩:=ih (t::ds) w g es N;refine⟨λp=>match p with | 0=>s | p+1=>S p,λp=>match p with | 0=>t | p+1=>D p,rfl,λp y A=>?_,λL J a i=>?_⟩;cases p with
   | zero=>simp at A;subst A;show (t=false∧(x.2.dst.isSome=true->zU ((S 0).ls.headD .undef)=true)∧DStep cf b x s (S 0))∨(t=true∧GStep b x s (S 0)∧_);rw [I,u];rcases B with B | ⟨B,h3,h4⟩;exact .inl B;refine .inr ⟨B,h3,?_⟩;rcases h4 with h4 | ⟨k,h4,h5⟩;exact .inl h4;exact .inr ⟨k,h4,.inr ⟨aeN _,by simpa using h5⟩⟩
   | succ p=>
    have E:=K p y (by simpa using A);rcases E with E | ⟨E,q3,q4⟩;exact .inl E;refine .inr ⟨E,q3,?_⟩;rcases q4 with q4 | ⟨k,q4,q5⟩;exact .inl q4;refine .inr ⟨k,q4,?_⟩;rcases q5 with⟨q,r1,r2,r3⟩ | ⟨r1,r2⟩;exact .inl ⟨q+1,by omega,by omega,r3⟩;cases hk:k-p with
    | zero=>rw [hk] at r2;exact .inl ⟨0,by omega,by omega,by simpa using r2⟩
    | succ j=>rw [hk] at r2;exact .inr ⟨by omega,by rw [show k-(p+1)=j from by omega];simpa using r2⟩
   rw [Y3,FU];refine M (λp=>L (p+1)) (λp A=>J (p+1) A) _ ?_;show (if L 0=true then bD x.2.dst ((S 0).ls.headD .undef) a else a)∈g;rw [I,u];cases hl0:L 0 with
   | false=>rw [if_neg (by decide)];exact (C a i).1
   | true=>rw [if_pos rfl];exact (C a i).2 (J 0 hl0)
  have f:∀v,∀a∈es0,a∈es0∧(true=false->bD x.2.dst v a∈es0):=λv a i=>⟨i,λh=>by cases h⟩;have z:∀v,∀a∈es0,a∈Sy x.2.dst.isSome (bD x.2.dst v) es0∧(false=false->bD x.2.dst v a∈Sy x.2.dst.isSome (bD x.2.dst v) es0):=λv a i=>⟨Ub i,λ_=>Xz i⟩;unfold rR at h;cases ho:x.2.op with
  | e o=>rw [ho] at h;exact c true .undef ⟨.undef::s.ls,bD x.2.dst .undef s.env,s.m,s.m::s.gs⟩ es0 h rfl (f _) (.inr ⟨rfl,⟨.undef,rfl,rfl,rfl,by simp [L9,ho],λH d=>by rw [ho] at d;cases d⟩,.inl ⟨o,ho⟩⟩)
  | a o=>
   rw [ho] at h;cases hdd:rQ ds x.2 with
   | false=>
    simp only [hdd,cond_false] at h;cases hdst:x.2.dst with
    | some j=>rw [hdst] at h;cases h
    | none=>rw [hdst] at h;obtain⟨r,O,h⟩:=z8 h;obtain⟨u,h⟩:=D5 h;obtain⟨G,h⟩:=D5 h;refine c false r.1 ⟨r.1::s.ls,s.env,JM s.m (b+x.1) r.2,s.gs⟩ es0 h rfl (λa i=>⟨i,λ_=>by rw [hdst];exact i⟩) (.inl ⟨rfl,λd=>by (rw [hdst] at d;cases d),r.1,rfl,by rw [hdst];rfl,?_⟩);rw [ho];exact⟨r,O,rfl,u,G,rfl,rfl⟩
   | true=>
    simp only [hdd,cond_true] at h;have h:(Option.rec (rR l (true::ds) b (.undef::s.ls) (bD x.2.dst .undef s.env) s.m s.gs es0) (λ_=>none) (AQ x.2.guard (uS o) s.ls s.env (b+x.1)):Option (List (T d9)))=some es:=h;cases hn:AQ x.2.guard (uS o) s.ls s.env (b+x.1) with
    | some r=>rw [hn] at h;cases h
    | none=>rw [hn] at h;exact c true .undef ⟨.undef::s.ls,bD x.2.dst .undef s.env,s.m,s.gs⟩ es0 h rfl (f _) (.inr ⟨rfl,⟨.undef,rfl,rfl,rfl,by simp [L9,ho],λH d=>by rw [ho] at d;cases d;exact hn⟩,.inr (wC hdd)⟩)
  | r o=>
   rw [ho] at h;cases hdd:rQ ds x.2 with
   | true=>simp only [hdd,cond_true] at h;exact c true .undef ⟨.undef::s.ls,bD x.2.dst .undef s.env,s.m,s.gs⟩ es0 h rfl (f _) (.inr ⟨rfl,⟨.undef,rfl,rfl,rfl,by simp [L9,ho],λH d=>by rw [ho] at d;cases d⟩,.inr (wC hdd)⟩)
   | false=>simp only [hdd,cond_false] at h;obtain⟨v,F,h⟩:=z8 h;obtain⟨P,h⟩:=D5 h;obtain⟨n,h⟩:=D5 h;refine c false v ⟨v::s.ls,bD x.2.dst v s.env,s.m,s.gs⟩ _ h rfl (z v) (.inl ⟨rfl,λd=>by (rw [d] at n;exact n),v,rfl,rfl,?_⟩);rw [ho];exact⟨.inl ⟨F,P⟩,trivial,rfl,rfl⟩
  | p o=>
   rw [ho] at h;cases hdd:rQ ds x.2 with
   | true=>simp only [hdd,cond_true] at h;exact c true .undef ⟨.undef::s.ls,bD x.2.dst .undef s.env,s.m,s.gs⟩ es0 h rfl (f _) (.inr ⟨rfl,⟨.undef,rfl,rfl,rfl,by simp [L9,ho],λH d=>by rw [ho] at d;cases d⟩,.inr (wC hdd)⟩)
   | false=>simp only [hdd,cond_false] at h;obtain⟨v,F,h⟩:=z8 h;obtain⟨n,h⟩:=D5 h;refine c false v ⟨v::s.ls,bD x.2.dst v s.env,s.m,s.gs⟩ _ h rfl (z v) (.inl ⟨rfl,λd=>by (rw [d] at n;exact n),v,rfl,rfl,?_⟩);rw [ho];exact⟨F,rfl,rfl⟩
theorem QY {o:wR}{l:List (Nat×Inst)}{b:Nat}{ls:List d9}{env:T d9}{m:Mem}{c:List Mem}{a es:List (T d9)}(h:Xh o l b ls env m c a=some es):rR l [true] b ls env m c a=some es:=by
 have d:(bif Ev l [true] then rR l [true] else MF) b ls env m c a=some es->rR l [true] b ls env m c a=some es:=λh=>by
  cases hg:Ev l [true] with
  | true=>rw [hg] at h;exact h
  | false=>rw [hg] at h;cases h
 unfold Xh at h;split at h<;>first | exact d h | cases h
structure afh (cf:D7)(b:Nat)(l:List (Nat×Inst))(S:Nat->DS)(D:Nat->Bool)(N:Nat)(y:d9)(m':Mem)(es:List (T d9)):Prop where
 at_:∃x eo,l[N]?=some x∧x.2.op=.e eo∧GZ x.2.guard (lY eo) cf (S N).ls (S N).env (S N).m=some [⟨.ng y,m'⟩]
 lo:∀p,p<N->D p=false
 here:D N=true
 step:∀p x,l[p]?=some x->(D p=false∧DStep cf b x (S p) (S (p+1)))∨(N<=p∧D p=true∧GStep b x (S p) (S (p+1))∧(p=N∨Waits x p λk=>∃q,q<p∧k=p-1-q∧D q=true))
 na:∀p x,N<p->l[p]?=some x->D p=false->x.2.dst.isSome=true->zU ((S (p+1)).ls.headD .undef)=true
 envs:∀L:Nat->Bool,(∀p,N<p->L p=true->D p=false)->Bc (l.drop (N+1)) (λk=>(S (N+1+k+1)).ls.headD .undef) (λk=>L (N+1+k)) (S N).env (l.length-(N+1))∈es
theorem NA {cf:D7}{b:Nat}:∀(l:List (Nat×Inst)) (s:DS) (outs:List EM),rU l cf b s.ls s.env s.m s.gs=some outs->
  ∃S:Nat->DS,S 0=s∧(((∀p x,l[p]?=some x->DStep cf b x (S p) (S (p+1)))∧outs=[⟨(S l.length).env,(S l.length).m,none,[]⟩])∨
   ∃N D y m' es,afh cf b l S D N y m' es∧outs=rT m' y es):=by
 intro l;induction l with
 | nil=>intro s outs h;have h:some [EM.mk s.env s.m none []]=some outs:=h;cases h;exact⟨λ_=>s,rfl,.inl ⟨λp x a=>by simp at a,rfl⟩⟩
 | cons x l ih=>
  intro s outs h;have h:ab3 x.1 x.2.op x.2.dst x.2.guard (Xh x.2.op l) (rU l) cf b s.ls s.env s.m s.gs=some outs:=h;rcases QX h with⟨s',h1,h2⟩ | ⟨o,y,m',h1,h2,es,h3,h4⟩;obtain⟨S,r,c⟩:=ih s' outs h2;have v:DStep cf b x s (S 0):=by rw [r];exact h1
  refine⟨λp=>match p with | 0=>s | p+1=>S p,rfl,?_⟩;rcases c with⟨c,g⟩ | ⟨N,D,y,m',es,c,g⟩;refine .inl ⟨λp y a=>?_,by simpa using g⟩;cases p with
  | zero=>simp at a;subst a;exact v
  | succ p=>exact c p y (by simpa using a)
  refine .inr ⟨N+1,λp=>match p with | 0=>false | p+1=>D p,y,m',es,⟨?_,λp a=>?_,c.here,λp z a=>?_,λp z A a e=>?_,λL t=>?_⟩,g⟩
  obtain⟨z,o,f,i,d⟩:=c.at_;exact⟨z,o,by simpa using f,i,d⟩;cases p with
  | zero=>rfl
  | succ p=>exact c.lo p (by omega)
  cases p with
  | zero=>simp at a;subst a;exact .inl ⟨rfl,v⟩
  | succ p=>rcases c.step p z (by simpa using a) with q | ⟨f,i,d,q4⟩;exact .inl q;refine .inr ⟨by omega,i,d,?_⟩;rcases q4 with rfl | q4 | ⟨k,q4,q,r1,r2,r3⟩;exact .inl rfl;exact .inr (.inl q4);exact .inr (.inr ⟨k,q4,q+1,by omega,by omega,r3⟩)
  cases p with
  | zero=>omega
  | succ p=>exact c.na p z (by omega) (by simpa using a) e
  have:=c.envs (λp=>L (p+1)) λp a B=>t (p+1) (by omega) B;have n:∀k,N+1+1+k=N+1+k+1:=λk=>by omega
  simpa [n,aez,agp 1] using this;have w:L9 x.2=true:=by simp [L9,h1]
  obtain⟨S,D,r,c,g⟩:=Uc (cf:=cf) (b:=b) l [true] ⟨.undef::s.ls,bD x.2.dst .undef s.env,s.m,s.m::s.gs⟩ [s.env] es (QY h3);refine⟨λp=>match p with | 0=>s | p+1=>S p,rfl,.inr ⟨0,λp=>match p with | 0=>true | p+1=>D p,y,m',es,⟨⟨x,o,rfl,h1,h2⟩,λp a=>by omega,rfl,λp z a=>?_,λp z A a e=>?_,λL t=>?_⟩,h4⟩⟩;cases p with
  | zero=>simp at a;subst a;refine .inr ⟨lM _,rfl,?_,.inl rfl⟩;show GStep b x s (S 0);rw [r];exact⟨.undef,rfl,rfl,rfl,by simp [w],λC u=>by rw [h1] at u;cases u⟩
  | succ p=>
   have q:=c p z (by simpa using a);rcases q with⟨q,_,q'⟩ | ⟨f,i,d⟩;exact .inl ⟨q,q'⟩;refine .inr ⟨by omega,f,i,.inr ?_⟩;rcases d with d | ⟨k,d,q4⟩;exact .inl d;refine .inr ⟨k,d,?_⟩;rcases q4 with⟨q,r1,r2,r3⟩ | ⟨r1,r2⟩;exact⟨q+1,by omega,by omega,r3⟩;cases hk:k-p with
   | zero=>exact⟨0,by omega,by omega,rfl⟩
   | succ j=>rw [hk] at r2;simp at r2
  cases p with
  | zero=>omega
  | succ p=>rcases c p z (by simpa using a) with⟨_,q,_⟩ | ⟨f,_⟩;exact q;have e:D p=false:=e;rw [f] at e;cases e
  have:=g (λp=>L (p+1)) (λp a=>t (p+1) (by omega) a) s.env (by simp);have n:∀k,1+k=k+1:=λk=>by omega
  simpa [n] using this
def eD (ops:Array Oper)(ord:List Nat)(p:Nat):List (Option Nat):=((ord.take p).map λi=>(ops[i]?).bind (·.dst)).reverse
theorem QZ {P:Program}{a:List Nat}{ops:Array Oper}:∀(l:List Nat) (done:List (Option Nat)) (insts:List Inst),iT P a ops done l=some insts->
  insts.length=l.length∧∀p i,l[p]?=some i->∃x o,insts[p]?=some x∧ops[i]?=some o∧nT P a (eD ops l p++done) ops i=some (x,o.dst):=by
 intro l;induction l with
 | nil=>intro done insts h;simp only [iT,gB] at h;subst h;exact⟨rfl,λp i b=>by simp at b⟩
 | cons j l ih=>
  intro done insts h;obtain⟨x,d,t,e,q,rfl⟩:=oh h;obtain⟨m,n⟩:=ih _ _ q;obtain⟨o,c,rfl,_⟩:=jL e;refine⟨by simp [m],λp i b=>?_⟩;cases p with
  | zero=>simp at b;subst b;exact⟨x,o,rfl,c,by simpa [eD] using e⟩
  | succ p=>
   obtain⟨s,r,f,g,k⟩:=n p i (by simpa using b);refine⟨s,r,by simpa using f,g,?_⟩;have:eD ops (j::l) (p+1)++done=eD ops l p++o.dst::done:=by simp [eD,c]
   rw [this];exact k
theorem KN (b:List Nat):∀(l:List (Nat×Inst)) (effs:List Nat) (nal:Nat),(numbered b l effs nal).length=l.length∧
  ∀p i x,l[p]?=some (i,x)->∃c,(numbered b l effs nal)[p]?=some (c,x)∧
   (isR x=true->c=(((((l.take p).filter λy=>L9 y.2).map (·.1)).reverse++effs).takeWhile λe=>!MW b i e).length)∧
   (isR x=false->c=nal+((l.take p).filter λy=>isA y.2).length):=by
 intro l;induction l with
 | nil=>intro effs nal;exact⟨rfl,λp i x a=>by simp at a⟩
 | cons z l ih=>
  intro effs nal;obtain⟨j,y⟩:=z;obtain⟨k,m⟩:=ih (if L9 y then j::effs else effs) (if isA y then nal+1 else nal);refine⟨by simp [numbered,k],λp i x a=>?_⟩;cases p with
  | zero=>simp at a;obtain⟨rfl,rfl⟩:=a;exact⟨_,rfl,λh=>by simp [ab5,h],λh=>by simp [ab5,h]⟩
  | succ p=>
   obtain⟨c,d,f,g⟩:=m p i x (by simpa using a);refine⟨c,by simpa [numbered] using d,λh=>?_,λh=>?_⟩;rw [f h];cases hy:L9 y<;>simp [hy]
   rw [g h];cases hy:isA y<;>simp [hy];omega
def Mem.sub (m m':Mem):Prop:=∀i b,m.get i=some b->bF b=false->m'.get i=some b
theorem mZ {β:Type}{m m':Mem}(h:m.sub m'){i:Nat}{k:Nat->Nat->T (List d9)->Option β}{r:β}(d:R4 (m.get i) k=some r):R4 (m'.get i) k=some r:=by obtain⟨e,n,a,b,c⟩:=bJ d;rw [h i _ b rfl];exact c
theorem OW {β:Type}{m m':Mem}(h:m.sub m'){i:Nat}{k:List (d9×d9)->Option β}{r:β}(c:MP (m.get i) k=some r):MP (m'.get i) k=some r:=by obtain⟨d,a,b⟩:=za c;rw [h i _ a rfl];exact b
theorem Ud {β:Type}{m m':Mem}(h:m.sub m'){i:Nat}{k:List (d9×d9)->Option β}{r:β}(c:GK (m.get i) k=some r):GK (m'.get i) k=some r:=by obtain⟨d,a | a,b⟩:=Bv c;all_goals (rw [h i _ a rfl];exact b)
theorem xV {m m':Mem}(h:m.sub m'){i off n:Nat}{l:List d9}(b:R8 m i off n=some l):R8 m' i off n=some l:=by
 cases n with
 | zero=>exact b
 | succ n=>exact mZ h (k:=λc k a=>P5 c k a (n+1) off) b
theorem XA {m m':Mem}(h:m.sub m'){o:MO}{ls:List d9}{env:T d9}{v:d9}(a:qo o ls env m=some v):qo o ls env m'=some v:=by
 cases o with
 | load size x=>
  cases size with
  | none=>obtain⟨id,off,b,a⟩:=cZ a;have b:D8 x ls env=.ptr id off:=b;show eP (D8 x ls env) _=_;rw [b];exact mZ h a
  | some k=>obtain⟨id,off,b,a⟩:=cZ a;have b:D8 x ls env=.ptr id off:=b;show eP (D8 x ls env) _=_;rw [b];exact mZ h a
 | look kk z ok x y=>rcases uf a with⟨b,a⟩ | ⟨id,b,a⟩;have b:D8 x ls env=.nilMap:=b;show rJ (D8 x ls env) _ _=_;rw [b];exact a;have b:D8 x ls env=.map id:=b;show rJ (D8 x ls env) _ _=_;rw [b];exact Ud h a
 | slData x=>exact a
 | toUns x=>
  change rP (D8 x) ls env m=some v at a
  show rP (D8 x) ls env m'=some v;unfold rP at a ⊢;split at a;exact a;exact mZ h a;cases a
 | fromUns l x=>
  change jZ l (D8 x) ls env m=some v at a
  show jZ l (D8 x) ls env m'=some v;unfold jZ at a ⊢;split at a;exact a;exact mZ h a;cases a
 | lenM x=>rcases uf a with⟨b,a⟩ | ⟨id,b,a⟩;have b:D8 x ls env=.nilMap:=b;show rJ (D8 x ls env) _ _=_;rw [b];exact a;have b:D8 x ls env=.map id:=b;show rJ (D8 x ls env) _ _=_;rw [b];exact OW h a
 | bytesStr x=>rcases qw a with⟨b,a⟩ | ⟨id,off,len,cap,b,a⟩ | ⟨id,off,len,cap,b,a⟩;have b:D8 x ls env=.nilSlice:=b;show qj (D8 x ls env) _ _ _=_;rw [b];exact a;have b:D8 x ls env=.slice id off len cap:=b;show qj (D8 x ls env) _ _ _=_;rw [b];obtain⟨l,c,a⟩:=z8 a;show ob (R8 m' id off len) _=_;rw [xV h c];exact a;have b:D8 x ls env=.sliceU id off len cap:=b;show qj (D8 x ls env) _ _ _=_;rw [b];obtain⟨l,c,a⟩:=z8 a;show ob (R8 m' id off len) _=_;rw [xV h c];exact a
 | entry x=>
  obtain⟨id,off,b,a⟩:=cZ a;have b:D8 x ls env=.ptr id off:=b;show eP (D8 x ls env) _=_;rw [b];obtain⟨c,a⟩:=D5 a;show bi (Nat.beq off 0) _ none=_;rw [c];rcases Cv a with⟨_,_,_,a⟩ | ⟨mp,since,seen,h3,a⟩;cases a;show Fg (m'.get id) _ _=_;rw [h id _ h3 rfl];cases seen with
  | nil=>cases a
  | cons i t=>exact OW h a
theorem jN {f:d9->d9->Bool}(hf:∀x y,f x y=true->x=y):∀a b:List d9,rz f a b=true->a=b
 | [],[],_=>rfl
 | [],y::b,h=>by cases h
 | x::a,[],h=>by cases h
 | x::a,y::b,h=>by
  have h:bi (f x y) (rz f a b) false=true:=h;cases hx:f x y with
  | false=>rw [hx] at h;cases h
  | true=>rw [hx] at h;rw [hf x y hx,jN hf a b h]
theorem bG {a b:Bool}(h:bi a b false=true):a=true∧b=true:=by cases a<;>cases b<;>first | exact⟨rfl,rfl⟩ | cases h
theorem iw:∀(n:Nat) (x y:d9),dz n x y=true->x=y:=by
 intro n;induction n with
 | zero=>intro x y h;cases h
 | succ n ih=>
  intro x y h;cases x with
  | bool a=>cases y<;>first | (cases h;done) | (have h:BN _ _=true:=h;rw [yV] at h;rw [eq_of_beq h])
  | int k a=>
   cases y<;>first | (cases h;done) | skip
   obtain⟨e,g⟩:=bG (a:=WY _ _) (b:=aX _ _) h;rw [Nb] at e;rw [dW] at g;rw [of_decide_eq_true e,eq_of_beq g]
  | str a=>cases y<;>first | (cases h;done) | (have h:strEq _ _=true:=h;rw [eU] at h;rw [eq_of_beq h])
  | ptr a b=>
   cases y<;>first | (cases h;done) | skip
   obtain⟨e,g⟩:=bG (a:=Nat.beq _ _) (b:=Nat.beq _ _) h;rw [aP e,aP g]
  | slice a b c d=>
   cases y<;>first | (cases h;done) | skip
   obtain⟨e,h⟩:=bG (a:=Nat.beq _ _) h;obtain⟨g,h⟩:=bG (a:=Nat.beq _ _) h;obtain⟨i,l⟩:=bG (a:=Nat.beq _ _) h;rw [aP e,aP g,aP i,aP l]
  | sliceU a b c d=>
   cases y<;>first | (cases h;done) | skip
   obtain⟨e,h⟩:=bG (a:=Nat.beq _ _) h;obtain⟨g,h⟩:=bG (a:=Nat.beq _ _) h;obtain⟨i,l⟩:=bG (a:=Nat.beq _ _) h;rw [aP e,aP g,aP i,aP l]
  | map a=>cases y<;>first | (cases h;done) | (have h:Nat.beq _ _=true:=h;rw [aP h])
  | func fn a b=>
   cases fn<;>cases y<;>first | (cases h;done) | skip
   all_goals
   rename_i f j c d;cases j<;>first | (cases h;done) | skip
   obtain⟨e,h⟩:=bG (a:=Nat.beq _ _) h;obtain⟨g,i⟩:=bG h;rw [aP e,jN ih _ _ g,jN ih _ _ i]
  | iface t a=>
   cases y<;>first | (cases h;done) | skip
   obtain⟨e,g⟩:=bG (a:=Nat.beq _ _) h;rw [aP e,ih _ _ g]
  | agg a=>cases y<;>first | (cases h;done) | (rw [jN ih _ _ h])
  | tuple a=>cases y<;>first | (cases h;done) | (rw [jN ih _ _ h])
  | _=>cases y<;>first | rfl | (cases h;done)
theorem Ah {f:RF}{ls:List d9}{env:T d9}{v:d9}:∀{n:Nat} {gs:List Mem},stable f ls env v n gs=true->∀k,k<n->∃g,gs[k]?=some g∧f ls env g=some v
 | 0,_,_,k,hk=>by omega
 | n+1,[],h,k,hk=>by cases h
 | n+1,g::gs,h,k,hk=>by
  have h:bi (Option.rec false (λu=>dz 100 u v) (f ls env g)) (stable f ls env v n gs) false=true:=h;obtain⟨h1,h2⟩:=bG h;cases k with
  | zero=>
   refine⟨g,rfl,?_⟩;cases hf:f ls env g with
   | none=>rw [hf] at h1;cases h1
   | some u=>rw [hf] at h1;rw [iw 100 u v h1]
  | succ k=>obtain⟨g',h3,h4⟩:=Ah h2 k (by omega);exact⟨g',by simpa using h3,h4⟩
theorem sU {b:Option N7}(h:isVoid b=true):b=some .void:=by unfold isVoid at h;split at h;rfl;cases h
theorem xW {i:Nat}:∀{gs:List Mem},jR i gs=true->∀g∈gs,g.get i=some .void
 | [],_,g,hg=>by cases hg
 | x::gs,h,g,hg=>by obtain⟨h1,h2⟩:=bG (a:=isVoid (x.get i)) (b:=jR i gs) h;rcases X4.1 hg with rfl | hg;exact sU h1;exact xW h2 g hg
section
variable {P:Program}{G:Mem}{ι:H6}{m:Mem}{w:World}
theorem Ik (m:Mem):reserve 0 m=m:=rfl
theorem Il (n:Nat)(m:Mem):reserve (n+1) m=reserve n (m.new .void):=rfl
theorem KO (h:RM P G ι m w.heap):Step P G ι m w ι (m.new .void) w:=by
 have c:=Mem.J9 h.ok .void;have o:∀i x,m.get i=some x->i≠m.nx:=λi x a e=>by have:=Mem.F9 h.ok a;omega
 have f:∀i,m.has i->(m.new .void).has i:=λi ⟨x,a,hv⟩=>⟨x,by rw [c,if_neg (o i x a)];exact a,hv⟩;have d:∀i x,(m.new .void).get i=some x->Q7 x=true->m.get i=some x:=λi x a g=>by rw [c] at a;split at a;cases a;cases g;exact a
 refine⟨⟨h.ok.push .void,?_,?_,h.glim,aiB h.limn,h.gle,λi k=>by rw [c,if_neg (by have:=h.glim;have:=h.limn;omega)];exact h.base i k,λi k=>f i (h.ghas i k),h.glob,λi x a g=>h.spot i x (d i x a g) g,h.gsz⟩,
  λ_ _=>rfl,f,ajS _,rfl,λi k=>by rw [c,if_neg (by have:=h.limn;omega)],lM _,λ_ _ _=>rfl,?_,rfl,rfl,rfl⟩
 intro i x a;rw [c] at a;split at a;cases a;trivial;exact (h.blk i x a).mono (n:=m.nm ι) (λ_ _=>rfl) (Mem.U2 f λ_ _=>rfl) λ_=>rfl;intro i x k a g;have p:=h.own i x k (d i x a g) g;exact⟨λj y q r l=>p.alone j y q (d j y r l) l,p.free⟩;rintro b ⟨i,x,k,a,g,rfl⟩;exact .inl ⟨i,x,k,d i x a g,g,rfl⟩
theorem xX:∀(n:Nat) {m:Mem},RM P G ι m w.heap->Step P G ι m w ι (reserve n m) w
 | 0,_,h=>Step.refl h
 | n+1,_,h=>(KO h).trans (xX n (KO h).rm)
structure akz (P:Program)(ι:H6)(n:Nm)(h:Array Obj)(id:Nat)(b:N7)(m:Mem):Prop where
 blk:bO P ι n h (ι id) b
 live:bF b=false
 alone:Q7 b=true->∀j y,j≠id->m.get j=some y->Q7 y=true->(ι j).b≠(ι id).b
 free:Q7 b=true->∀c e fz,h[(ι id).b]?=some (.cells c e fz)->∀k,k<c.size->¬ (fz.1<=k∧k<fz.2)
 spot:Q7 b=true->(ι id).spot=none
theorem Step.add {v:H6}{F:Mem}{C:World}(c:Step P G v F C ι m w){id:Nat}{b:N7}(E:m.get id=some .void)(H:m.lim<=id)(s:akz P ι ((m.set id b).nm ι) w.heap id b m)
  (u:Q7 b=true->C.heap.size<=(ι id).b):Step P G v F C ι (m.set id b) w:=by
 have h:=c.rm;have t:=Mem.F9 h.ok E;have g:=Mem.U1 h.ok t b;have A:¬ m.has id:=λ⟨x,q,r⟩=>by rw [E] at q;cases q;cases r
 have l:∀i,m.has i->(m.set id b).has i:=λi k=>by have o:i≠id:=λe=>A (e▸k);obtain⟨x,q,r⟩:=k;exact⟨x,by rw [g,if_neg o];exact q,r⟩
 have a:∀i x,(m.set id b).get i=some x->(i=id∧x=b)∨(i≠id∧m.get i=some x):=λi x f=>by rw [g] at f;split at f;cases f;exact .inl ⟨by assumption,rfl⟩;exact .inr ⟨by assumption,f⟩
 refine⟨⟨h.ok.put id b t,?_,?_,h.glim,h.limn,h.gle,λi k=>by rw [g,if_neg (by have:=h.glim;omega)];exact h.base i k,λi k=>l i (h.ghas i k),h.glob,λi x f d=>by
   rcases a i x f with⟨rfl,rfl⟩ | ⟨_,f⟩;exact s.spot d;exact h.spot i x f d,h.gsz⟩,
  c.ext,λi k=>l i (c.has i k),c.nx,c.lim,λi k=>by rw [g,if_neg (by have:=c.lim;omega)];exact c.old i k,c.size,c.frame,?_,c.os,c.out,c.tape⟩
 intro i x f;rcases a i x f with⟨rfl,rfl⟩ | ⟨o,f⟩;exact s.blk;exact (h.blk i x f).mono (n:=m.nm ι) (λ_ _=>rfl) (Mem.U2 l λ_ _=>rfl) λ_=>rfl;intro i x k f d;rcases a i x f with⟨rfl,rfl⟩ | ⟨o,f⟩;refine⟨λj y z B p=>?_,s.free d⟩;rcases a j y B with⟨q,_⟩ | ⟨q,r⟩;exact absurd q z;exact s.alone d j y z r p;rename_i I;have D:=h.own i x k f d;refine⟨λj y z B p=>?_,D.free⟩;rcases a j y B with⟨rfl,rfl⟩ | ⟨q,r⟩;exact λe=>s.alone p i x o f d e.symm;exact D.alone j y z r p;rintro b' ⟨i,x,k,f,d,rfl⟩;rcases a i x f with⟨rfl,rfl⟩ | ⟨o,f⟩;exact .inr (u d);exact c.own _ ⟨i,x,k,f,d,rfl⟩
theorem Step.push {ι':H6}{w':World}{o:Obj}(h:RM P G ι m w.heap)(r:Tz w w' o)(d:∀i,m.has i->ι' i=ι i):Step P G ι m w ι' m w':=by
 have f:∀k,k<w.heap.size->w'.heap[k]?=w.heap[k]?:=λk s=>by rw [r.heap];exact (agb s).trans (Z6 s).symm
 have u:(m.nm ι).le (m.nm ι'):=Mem.U2 (λi p=>p) d;have a:∀i x,m.get i=some x->Q7 x=true->ι' i=ι i:=λi x g l=>d i (pF g l);refine⟨⟨h.ok,?_,?_,h.glim,h.limn,h.gle,h.base,h.ghas,λi p=>by rw [d i (h.ghas i p)];exact h.glob i p,λi x g l=>by rw [a i x g l];exact h.spot i x g l,h.JY λk s _=>f k s⟩,d,λi p=>p,lM _,rfl,λ_ _=>rfl,by rw [r.heap];simp,λb t _=>f b t,?_,r.os,r.out,r.tape⟩;intro i x g;by_cases hv:bF x=true;cases x<;>first | trivial | cases hv
 rw [d i ⟨x,g,by simpa using hv⟩];exact (h.blk i x g).mono (n:=m.nm ι) d u λl=>f _ (dB (h.blk i x g) l);intro i x p g l;have z:=h.own i x p g l;have t:=dB (h.blk i x g) l;refine⟨λj y C A q=>?_,λc e B v=>?_⟩;rw [a i x g l,a j y A q];exact z.alone j y C A q;rw [a i x g l,f _ t] at v;exact z.free c e B v;rintro b ⟨i,x,p,g,l,rfl⟩;rw [a i x g l];exact .inl ⟨i,x,p,g,l,rfl⟩
end
section
variable {P:Program}{G:Mem}{slots:List Nat}{nt:Nat}{cf:D7}{b:Nat}{ops:Array Oper}{ord:List Nat}{X:Nat->Nat×Inst}{S:Nat->DS}
def KP (ops:Array Oper)(ord:List Nat)(X:Nat->Nat×Inst)(p i:Nat):N9->Prop
 | .loc k=>∃j,k<p∧ord[p-1-k]?=some j∧zu ops i j
 | .slot j=>∀q,q<p->(X q).2.dst≠some j
 | .con _=>True
def xY (ord:List Nat)(X:Nat->Nat×Inst):Nat->List Nat
 | 0=>[]
 | p+1=>if L9 (X p).2 then (ord.getD p 0)::xY ord X p else xY ord X p
structure Fixed (P:Program)(slots:List Nat)(nt:Nat)(cf:D7)(b:Nat)(ops:Array Oper)(ord:List Nat)(X:Nat->Nat×Inst)(S:Nat->DS):Prop where
 nodup:ord.Nodup
 all:∀i,i<ops.size->i∈ord
 lt:∀i∈ord,i<ops.size
 inst:∀(p i:Nat),ord[p]?=some i->∃o,ops[i]?=some o∧(X p).2.op=jv P slots (eD ops ord p) o.op∧(X p).2.dst=Ey slots o.dst∧lN ops (eD ops ord p) o.guard (X p).2.guard
 step:∀p,p<ord.length->KJ cf b (X p) (S p) (S (p+1))
 eff:∀(p i:Nat),ord[p]?=some i->L9 (X p).2=true->∀(q j:Nat),q<p->ord[q]?=some j->zu ops i j
 edges:∀(p i:Nat) (o:Oper),ord[p]?=some i->ops[i]?=some o->∀e∈o.after,Region.binds .any e=true->∃q:Nat,q<p∧ord[q]?=some e.on
 dsts:∀(i j:Nat) (oi oj:Oper) (t:Tmp),ops[i]?=some oi->ops[j]?=some oj->oi.dst=some t->oj.dst=some t->i=j
 looks:∀(i:Nat) (o:Oper) (t:Tmp),ops[i]?=some o->t∈vT ops o->∀(q:Nat) (oq:Oper),ops[q]?=some oq->q≠i->oq.dst=some t->zu ops i q∨zu ops q i
 WE:∀(p i:Nat),ord[p]?=some i->∀y∈BM (X p).2.op,KP ops ord X p i y
 opdg:∀(p i:Nat) (y:N9) (wt:Bool),ord[p]?=some i->(X p).2.guard=some (y,wt)->KP ops ord X p i y
 cnt:∀(p i:Nat) o,ord[p]?=some i->(X p).2.op=.r o->(X p).1=((xY ord X p).takeWhile λe=>!MW (masks ops.toList) i e).length
 nal:∀(p q:Nat) o o',p<q->q<ord.length->(X p).2.op=.a o->(X q).2.op=.a o'->(X p).1<(X q).1
 din:∀(i:Nat) (o:Oper) (t:Tmp),ops[i]?=some o->o.dst=some t->t<nt
 gs0:(S 0).gs=[(S 0).m]
 ls0:(S 0).ls=[]
def qJ (S:Nat->DS)(p:Nat):d9:=(S (p+1)).ls.headD .undef
def bY (b:Nat)(X:Nat->Nat×Inst)(S:Nat->DS)(p:Nat):Option (Nat×N7):=match (X p).2.op with
 | .a o=>match AQ (X p).2.guard (uS o) (S p).ls (S p).env (b+(X p).1) with
  | some (_,some blk)=>some (b+(X p).1,blk)
  | _=>none
 | _=>none
def V6 (b:Nat)(X:Nat->Nat×Inst)(S:Nat->DS)(q:Nat)(L:Nat->Bool):Nat->Mem
 | 0=>(S q).m
 | d+1=>if L (q+d) then (match bY b X S (q+d) with
    | some (i,blk)=>(V6 b X S q L d).set i blk
    | none=>V6 b X S q L d)
  else V6 b X S q L d
theorem Ue {x:Nat×Inst}{s a:DS}(h:KJ cf b x s a):∃v,a.ls=v::s.ls∧a.env=bD x.2.dst v s.env:=by rcases h with⟨v,h1,h2,_⟩ | ⟨v,h1,h2,_⟩<;>exact⟨v,h1,h2⟩
theorem KQ {x:Nat×Inst}{s c:DS}(h:KJ cf b x s c):c.gs=if L9 x.2=true then c.m::s.gs else s.gs:=by
 rcases h with⟨v,h1,h2,h3⟩ | ⟨v,_,_,_,h4,_⟩;cases hop:x.2.op with
 | p o=>rw [hop] at h3;simp [L9,hop,h3.2.2]
 | r o=>rw [hop] at h3;simp [L9,hop,h3.2.2.2]
 | a o=>rw [hop] at h3;obtain⟨_,_,_,_,_,_,h⟩:=h3;simp [L9,hop,h]
 | e o=>rw [hop] at h3;simp [L9,hop,h3.2.1]
 exact h4
theorem Fixed.ls (F:Fixed P slots nt cf b ops ord X S){p:Nat}(hp:p<ord.length):(S (p+1)).ls=qJ S p::(S p).ls∧(S (p+1)).env=bD (X p).2.dst (qJ S p) (S p).env:=by
 obtain⟨v,a,c⟩:=Ue (F.step p hp);have:qJ S p=v:=by simp [qJ,a]
 rw [this];exact⟨a,c⟩
theorem Fixed.len (F:Fixed P slots nt cf b ops ord X S):∀p,p<=ord.length->(S p).ls.length=p∧∀k,k<p->(S p).ls[k]?=some (qJ S (p-1-k)):=by
 intro p;induction p with
 | zero=>intro _;exact⟨by rw [F.ls0];rfl,λk e=>by omega⟩
 | succ p ih=>
  intro f;obtain⟨a,c⟩:=ih (by omega);obtain⟨d,_⟩:=F.ls (p:=p) (by omega);rw [d];refine⟨by simp [a],λk e=>?_⟩;cases k with
  | zero=>simp
  | succ k=>rw [abW,c k (by omega),show p+1-1-(k+1)=p-1-k from by omega]
theorem Fixed.gs (F:Fixed P slots nt cf b ops ord X S){q:Nat}(i:q=0∨L9 (X (q-1)).2=true):∀d,q+d<=ord.length->
  ∃r:Nat,(S (q+d)).gs[r]?=some (S q).m∧∀k:Nat,k<r->∃pos e,q<=pos∧pos<q+d∧ord[pos]?=some e∧L9 (X pos).2=true∧(xY ord X (q+d))[k]?=some e:=by
 intro d;induction d with
 | zero=>
  intro v;refine⟨0,?_,λk p=>by omega⟩;rcases i with rfl | i;rw [Y5,F.gs0];rfl;cases q with
  | zero=>rw [Y5,F.gs0];rfl
  | succ q=>have f:=KQ (F.step q (by omega));simp only [ag8] at i;rw [if_pos i] at f;rw [Y5,f];rfl
 | succ d ih=>
  intro v;obtain⟨r,s,t⟩:=ih (by omega);have f:=KQ (F.step (q+d) (by omega));have h:q+d<ord.length:=by omega
  have g:ord[q+d]?=some (ord.getD (q+d) 0):=by rw [X6,gy h];rfl
  cases he:L9 (X (q+d)).2 with
  | true=>
   have c:(S (q+(d+1))).gs=(S (q+(d+1))).m::(S (q+d)).gs:=by rw [if_pos he] at f;exact f
   refine⟨r+1,by rw [c];simpa using s,λk p=>?_⟩;have a:xY ord X (q+(d+1))=ord.getD (q+d) 0::xY ord X (q+d):=by show xY ord X (q+d+1)=_;simp [xY,he]
   cases k with
   | zero=>exact⟨q+d,_,by omega,by omega,g,he,by rw [a];rfl⟩
   | succ k=>obtain⟨pos,e,j,u,l,n,o⟩:=t k (by omega);exact⟨pos,e,j,by omega,l,n,by rw [a];simpa using o⟩
  | false=>
   have c:(S (q+(d+1))).gs=(S (q+d)).gs:=by rw [if_neg (by rw [he];exact Bool.false_ne_true)] at f;exact f
   refine⟨r,by rw [c];exact s,λk p=>?_⟩;obtain⟨pos,e,j,u,l,n,o⟩:=t k p;refine⟨pos,e,j,by omega,l,n,?_⟩;have:xY ord X (q+(d+1))=xY ord X (q+d):=by show xY ord X (q+d+1)=_;simp [xY,he]
   rw [this];exact o
theorem vC {α:Type}(f:α->Bool):∀(l:List α) (r:Nat),(∀k,k<r->∃e,l[k]?=some e∧f e=true)->r<=(l.takeWhile f).length
 | _,0,_=>aeN _
 | [],r+1,h=>by obtain⟨e,h1,_⟩:=h 0 (by omega);simp at h1
 | x::l,r+1,h=>by obtain⟨e,h1,h2⟩:=h 0 (by omega);simp at h1;subst h1;rw [List.takeWhile_cons,if_pos h2];have:=vC f l r (λk hk=>by obtain⟨e,h3,h4⟩:=h (k+1) (by omega);exact⟨e,by simpa using h3,h4⟩);simpa using this
theorem Fixed.made (F:Fixed P slots nt cf b ops ord X S){p:Nat}(hp:p<ord.length){i:Nat}{c:N7}(h:bY b X S p=some (i,c)):
  i=b+(X p).1∧(∃o,(X p).2.op=.a o∧AQ (X p).2.guard (uS o) (S p).ls (S p).env (b+(X p).1)=some (qJ S p,some c))∧(S (p+1)).m=(S p).m.set i c∧(S p).m.get i=some .void∧∀g∈(S p).gs,g.get i=some .void:=by
 have e:=F.step p hp;unfold bY at h;split at h;rename_i o d;obtain⟨v,t,y,k⟩:=e.resolve_right λ⟨_,_,_,_,_,hh⟩=>by rw [hh o d] at h;cases h
 have w:qJ S p=v:=by simp [qJ,t]
 rw [d] at k;obtain⟨r,j,l,n,q,s,x⟩:=k;rw [j] at h;obtain⟨u,f⟩:=r;cases f with
 | none=>cases h
 | some f=>cases h;exact⟨rfl,⟨o,d,by rw [j,w,l]⟩,s,sU n,xW q⟩
 cases h
theorem Fixed.FV (F:Fixed P slots nt cf b ops ord X S){p q:Nat}(hp:p<q)(a:q<ord.length){i j:Nat}{x y:N7}(h:bY b X S p=some (i,x))(h':bY b X S q=some (j,y)):i<j:=by obtain⟨f,⟨o,c,_⟩,_⟩:=F.made (by omega) h;obtain⟨g,⟨e,d,_⟩,_⟩:=F.made a h';have:=F.nal p q o e hp a c d;omega
theorem Fixed.quiet (F:Fixed P slots nt cf b ops ord X S){p:Nat}(hp:p<ord.length)(g:L9 (X p).2=false):(S (p+1)).m=(match bY b X S p with | some (i,blk)=>(S p).m.set i blk | none=>(S p).m):=by
 cases hm:bY b X S p with
 | some y=>obtain⟨i,blk⟩:=y;exact (F.made hp hm).2.2.1
 | none=>
  rcases F.step p hp with⟨v,_,_,hs⟩ | ⟨_,_,_,hh,_,_⟩
  case inr=>exact hh
  cases hop:(X p).2.op with
  | p o=>rw [hop] at hs;exact hs.2.1
  | r o=>rw [hop] at hs;exact hs.2.2.1
  | e o=>simp [L9,hop] at g
  | a o=>
   rw [hop] at hs;obtain⟨r,d,_,_,_,f,_⟩:=hs;rw [f];obtain⟨u,c⟩:=r;cases c with
   | none=>rfl
   | some c=>simp [bY,hop,d] at hm
theorem T.wD {α:Type}:∀(t:T α) (i:Nat) {x:α},t.get i=some x->∀(v:α) (j:Nat),(t.put i v).get j=if j=i then some v else t.get j
 | .e,i,x,h,v,j=>by cases h
 | .nd l y r,i,x,h,v,j=>by
  have hl:=λi x (h:l.get i=some x)=>T.wD l i h;have hr:=λi x (h:r.get i=some x)=>T.wD r i h;cases i with
  | zero=>
   cases j with
   | zero=>rfl
   | succ j=>rw [if_neg (by omega)];rfl
  | succ i=>
   have hm:Nat.mod i 2=0∨Nat.mod i 2=1:=by have:Nat.mod i 2<2:=agk _ (by omega);omega
   have hmj:Nat.mod j.pred 2=0∨Nat.mod j.pred 2=1:=by have:Nat.mod j.pred 2<2:=agk _ (by omega);omega
   have hg:(T.nd l y r).get (i+1)=(Nat.rec (l.get (Nat.div i 2)) (λ_ _=>r.get (Nat.div i 2)) (Nat.mod i 2):Option α):=rfl;have hp:(T.nd l y r).put (i+1) v=(Nat.rec (.nd (l.put (Nat.div i 2) v) y r) (λ_ _=>.nd l y (r.put (Nat.div i 2) v)) (Nat.mod i 2):T α):=rfl;rw [hg] at h;rw [hp];have hgj:∀(a b:T α) (k:Nat),(T.nd a y b).get (k+1)=(Nat.rec (a.get (Nat.div k 2)) (λ_ _=>b.get (Nat.div k 2)) (Nat.mod k 2):Option α):=λ_ _ _=>rfl;rcases hm with hm | hm;rw [hm] at h ⊢;cases j with
   | zero=>rw [if_neg (by omega)];rfl
   | succ k=>
    show (T.nd (l.put (Nat.div i 2) v) y r).get (k+1)=_;rw [hgj,hgj];rcases hmj with hk | hk<;>rw [show Nat.pred (k+1)=k from rfl] at hk<;>rw [hk]
    show (l.put (Nat.div i 2) v).get (Nat.div k 2)=if k+1=i+1 then some v else l.get (Nat.div k 2)
    rw [hl _ x h v];have e:Nat.div k 2=Nat.div i 2↔k+1=i+1:=by have h1:Nat.mod k 2=k%2:=rfl;have h2:Nat.mod i 2=i%2:=rfl;have h3:Nat.div k 2=k / 2:=rfl;have h4:Nat.div i 2=i / 2:=rfl;omega
    by_cases hh:k+1=i+1;rw [if_pos hh,if_pos (e.2 hh)];rw [if_neg hh,if_neg λq=>hh (e.1 q)];show r.get (Nat.div k 2)=if k+1=i+1 then some v else r.get (Nat.div k 2)
    rw [if_neg];intro hh;have h1:Nat.mod k 2=k%2:=rfl;have h2:Nat.mod i 2=i%2:=rfl;omega
   rw [hm] at h ⊢;cases j with
   | zero=>rw [if_neg (by omega)];rfl
   | succ k=>
    show (T.nd l y (r.put (Nat.div i 2) v)).get (k+1)=_;rw [hgj,hgj];rcases hmj with hk | hk<;>rw [show Nat.pred (k+1)=k from rfl] at hk<;>rw [hk]
    show l.get (Nat.div k 2)=if k+1=i+1 then some v else l.get (Nat.div k 2)
    rw [if_neg];intro hh;have h1:Nat.mod k 2=k%2:=rfl;have h2:Nat.mod i 2=i%2:=rfl;omega;show (r.put (Nat.div i 2) v).get (Nat.div k 2)=if k+1=i+1 then some v else r.get (Nat.div k 2)
    rw [hr _ x h v];have e:Nat.div k 2=Nat.div i 2↔k+1=i+1:=by have h1:Nat.mod k 2=k%2:=rfl;have h2:Nat.mod i 2=i%2:=rfl;have h3:Nat.div k 2=k / 2:=rfl;have h4:Nat.div i 2=i / 2:=rfl;omega
    by_cases hh:k+1=i+1;rw [if_pos hh,if_pos (e.2 hh)];rw [if_neg hh,if_neg λq=>hh (e.1 q)]
theorem Mem.wE {m:Mem}{i:Nat}{x:N7}(h:m.get i=some x)(y:N7)(j:Nat):(m.set i y).get j=if j=i then some y else m.get j:=T.wD m.t i h y j
theorem KR (X:Nat->Nat×Inst):∀p,∃q,q<=p∧(q=0∨L9 (X (q-1)).2=true)∧∀j,q<=j->j<p->L9 (X j).2=false
 | 0=>⟨0,lM _,.inl rfl,λj _ h=>by omega⟩
 | p+1=>by
  cases hE:L9 (X p).2 with
  | true=>exact⟨p+1,lM _,.inr hE,λj h1 h2=>by omega⟩
  | false=>obtain⟨q,h1,h2,h3⟩:=KR X p;refine⟨q,by omega,h2,λj g1 g2=>?_⟩;by_cases hj:j=p;rw [hj];exact hE;exact h3 j g1 (by omega)
theorem Fixed.since (F:Fixed P slots nt cf b ops ord X S){q:Nat}{i:Nat}{y:N7}:∀d,q+d<=ord.length->(∀j,q<=j->j<q+d->L9 (X j).2=false)->(S (q+d)).m.get i=some y->(S q).m.get i=some y∨∃p,q<=p∧p<q+d∧bY b X S p=some (i,y):=by
 intro d;induction d with
 | zero=>intro _ _ h;exact .inl h
 | succ d ih=>
  intro n f h;have g:=F.quiet (p:=q+d) (by omega) (f _ (by omega) (by omega));rw [show q+(d+1)=q+d+1 from rfl,g] at h;cases hm:bY b X S (q+d) with
  | none=>rw [hm] at h;rcases ih (by omega) (λj a e=>f j a (by omega)) h with h | ⟨p,a,e,h3⟩;exact .inl h;exact .inr ⟨p,a,by omega,h3⟩
  | some z=>obtain⟨k,c⟩:=z;rw [hm] at h;have l:=(F.made (p:=q+d) (by omega) hm).2.2.2.1;have h:((S (q+d)).m.set k c).get i=some y:=h;rw [Mem.wE l] at h;by_cases hk:i=k;subst hk;rw [if_pos rfl] at h;cases h;exact .inr ⟨q+d,by omega,by omega,hm⟩;rw [if_neg hk] at h;rcases ih (by omega) (λj a e=>f j a (by omega)) h with h | ⟨p,a,e,h3⟩;exact .inl h;exact .inr ⟨p,a,by omega,h3⟩
end
section
variable {P:Program}{G:Mem}{slots:List Nat}{nt:Nat}{cf:D7}{b:Nat}{ops:Array Oper}{ord:List Nat}{X:Nat->Nat×Inst}{S:Nat->DS}
structure Uf (b:Nat)(ord:List Nat)(X:Nat->Nat×Inst)(S:Nat->DS)(q:Nat)(L:Nat->Bool)(d:Nat):Prop where
 ok:T.Ok (V6 b X S q L d).t (V6 b X S q L d).nx
 nx:(V6 b X S q L d).nx=(S q).m.nx
 lim:(V6 b X S q L d).lim=(S q).m.lim
 later:∀p i blk,q+d<=p->p<ord.length->bY b X S p=some (i,blk)->(V6 b X S q L d).get i=some .void
 from_:∀j y,(V6 b X S q L d).get j=some y->(S q).m.get j=some y∨∃d',d'<d∧L (q+d')=true∧bY b X S (q+d')=some (j,y)
 laid:∀d' i blk,d'<d->L (q+d')=true->bY b X S (q+d')=some (i,blk)->(V6 b X S q L d).get i=some blk
 sub:(S q).m.sub (V6 b X S q L d)
theorem Fixed.Bw (F:Fixed P slots nt cf b ops ord X S){q p:Nat}(d:q=0∨L9 (X (q-1)).2=true)(e:q<=p)(hp:p<ord.length){i:Nat}{a:N7}(h:bY b X S p=some (i,a)):(S q).m.get i=some .void:=by obtain⟨r,c,_⟩:=F.gs d (p-q) (by omega);rw [show q+(p-q)=p from by omega] at c;exact (F.made hp h).2.2.2.2 _ (U9 c)
theorem Fixed.lay (F:Fixed P slots nt cf b ops ord X S){q:Nat}(x:q=0∨L9 (X (q-1)).2=true)(s:T.Ok (S q).m.t (S q).m.nx)(L:Nat->Bool):∀d,q+d<=ord.length->Uf b ord X S q L d:=by
 intro d;induction d with
 | zero=>intro _;exact⟨s,rfl,rfl,λp i a l c f=>F.Bw x (by omega) c f,λj y h=>.inl h,λk i a h=>by omega,λi y h _=>h⟩
 | succ d ih=>
  intro z;have H:=ih (by omega);cases hL:L (q+d) with
  | false=>
   have e:V6 b X S q L (d+1)=V6 b X S q L d:=by simp [V6,hL]
   refine⟨by rw [e];exact H.ok,by rw [e];exact H.nx,by rw [e];exact H.lim,λp i a l c f=>by rw [e];exact H.later p i a (by omega) c f,λj y h=>?_,λk i a l c f=>?_,by rw [e];exact H.sub⟩;rw [e] at h;rcases H.from_ j y h with h | ⟨k,l,c⟩;exact .inl h;exact .inr ⟨k,by omega,c⟩;by_cases hd':k=d;subst hd';rw [hL] at c;cases c;rw [e];exact H.laid k i a (by omega) c f
  | true=>
   cases hm:bY b X S (q+d) with
   | none=>have e:V6 b X S q L (d+1)=V6 b X S q L d:=(by simp [V6,hL,hm]);refine⟨by rw [e];exact H.ok,by rw [e];exact H.nx,by rw [e];exact H.lim,λp i a l c f=>by rw [e];exact H.later p i a (by omega) c f,λj y h=>?_,λk i a l c f=>?_,by rw [e];exact H.sub⟩;rw [e] at h;rcases H.from_ j y h with h | ⟨k,l,c⟩;exact .inl h;exact .inr ⟨k,by omega,c⟩;by_cases hd':k=d;subst hd';rw [hm] at f;cases f;rw [e];exact H.laid k i a (by omega) c f
   | some y=>obtain⟨u,blk0⟩:=y;have e:V6 b X S q L (d+1)=(V6 b X S q L d).set u blk0:=(by simp [V6,hL,hm]);have v:=H.later (q+d) u blk0 (lM _) (by omega) hm;have n:=Mem.F9 H.ok v;have g:=Mem.U1 H.ok n blk0;refine⟨by rw [e];exact H.ok.put u blk0 n,by rw [e];exact H.nx,by rw [e];exact H.lim,λp i a l c f=>?_,λj y h=>?_,λk i a l c f=>?_,λi y h w=>?_⟩;have r:=F.FV (p:=q+d) (q:=p) (by omega) c hm f;rw [e,g,if_neg (by omega)];exact H.later p i a (by omega) c f;rw [e,g] at h;split at h;rename_i o;cases h;exact .inr ⟨d,by omega,hL,by rw [o];exact hm⟩;rcases H.from_ j y h with h | ⟨k,l,c⟩;exact .inl h;exact .inr ⟨k,by omega,c⟩;by_cases hd':k=d;subst hd';rw [hm] at f;cases f;rw [e,g,if_pos rfl];have r:=F.FV (p:=q+k) (q:=q+d) (by omega) (by omega) f hm;rw [e,g,if_neg (by omega)];exact H.laid k i a (by omega) c f;have:=H.sub i y h w;rw [e,g,if_neg (λo=>by rw [o,v] at this;cases this;cases w)];exact this
theorem Fixed.xZ (F:Fixed P slots nt cf b ops ord X S){q:Nat}(f:q=0∨L9 (X (q-1)).2=true)(a:T.Ok (S q).m.t (S q).m.nx){L L':Nat->Bool}{d d':Nat}(l:d<=d')(e:q+d'<=ord.length)
  (i:∀k,k<d->L (q+k)=true->L' (q+k)=true) {j:Nat} (h:(V6 b X S q L d).has j):(V6 b X S q L' d').has j:=by
 obtain⟨y,g,c⟩:=h;have H:=F.lay f a L d (by omega);have H':=F.lay f a L' d' e;rcases H.from_ j y g with h | ⟨k,h3,h4,h5⟩;exact⟨y,H'.sub j y h c,c⟩;exact⟨y,H'.laid k j y (by omega) (i k h3 h4) h5,c⟩
theorem Fixed.lay_all (F:Fixed P slots nt cf b ops ord X S){q:Nat}{L:Nat->Bool}:∀d,q+d<=ord.length->(∀k,k<d->L (q+k)=true∧L9 (X (q+k)).2=false)->V6 b X S q L d=(S (q+d)).m:=by
 intro d;induction d with
 | zero=>intro _ _;rfl
 | succ d ih=>
  intro j h;obtain⟨c,f⟩:=h d (by omega);have e:=ih (by omega) λk l=>h k (by omega);have g:=F.quiet (p:=q+d) (by omega) f;show (if L (q+d) then _ else _)=_;rw [c,if_pos rfl,show q+(d+1)=q+d+1 from rfl,g];cases bY b X S (q+d) with
  | none=>exact e
  | some y=>obtain⟨i,a⟩:=y;simp only [];rw [e]
def Lp (ord:List Nat)(listed:Array Bool)(p:Nat):Bool:=match ord[p]? with
 | some i=>listed.getD i false
 | none=>false
structure jw (P:Program)(G:Mem)(b:Nat)(ops:Array Oper)(ord:List Nat)(X:Nat->Nat×Inst)(S:Nat->DS)(ι0:H6)(m0:Mem)(w0:World)(a0:Act)(listed:Array Bool)(a:Act)(w:World)(ι:H6)(q:Nat):Prop where
 hq:q<=ord.length
 head:q=0∨L9 (X (q-1)).2=true
 low:∀p,p<q->Lp ord listed p=true
 high:∀p,q<=p->L9 (X p).2=true->Lp ord listed p=false
 base:Step P G ι0 m0 w0 ι (S q).m w
 ext:∀d i blk,Lp ord listed (q+d)=true->bY b X S (q+d)=some (i,blk)->bO P ι ((V6 b X S q (Lp ord listed) (d+1)).nm ι) w.heap (ι i) blk∧bF blk=false∧
  (Q7 blk=true->(w0.heap.size<=(ι i).b∧(ι i).spot=none)∧(∀j y,(S q).m.get j=some y->Q7 y=true->(ι j).b≠(ι i).b)∧∀c e fz,w.heap[(ι i).b]?=some (.cells c e fz)->∀k,k<c.size->¬ (fz.1<=k∧k<fz.2))
 ext2:∀d d' i i' blk blk',d≠d'->Lp ord listed (q+d)=true->Lp ord listed (q+d')=true->bY b X S (q+d)=some (i,blk)->bY b X S (q+d')=some (i',blk')->Q7 blk=true->Q7 blk'=true->(ι i').b≠(ι i).b
 vals:∀d,Lp ord listed (q+d)=true->(qJ S (q+d)).lt ((V6 b X S q (Lp ord listed) (d+1)).nm ι)
 valsl:∀p,p<q->(qJ S p).lt ((S q).m.nm ι)
 tw:∀p i o t,ord[p]?=some i->listed.getD i false=true->ops[i]?=some o->o.dst=some t->a.tmps.getD t undef=l7 ι (qJ S p)
 tn:∀t,(∀i o,listed.getD i false=true->ops[i]?=some o->o.dst≠some t)->a.tmps.getD t undef=a0.tmps.getD t undef
 sz:a.tmps.size=a0.tmps.size
 defs:a.defers=a0.defers
 closed:jf ops listed
 len:listed.size=ops.size
variable {ι0 ι:H6}{m0:Mem}{w0 w:World}{a0 a:Act}{listed:Array Bool}{q:Nat}
theorem jw.lay (F:Fixed P slots nt cf b ops ord X S)(hb:m0.lim<=b)(D:jw P G b ops ord X S ι0 m0 w0 a0 listed a w ι q):∀d,q+d<=ord.length->Step P G ι0 m0 w0 ι (V6 b X S q (Lp ord listed) d) w:=by
 intro d;induction d with
 | zero=>intro _;exact D.base
 | succ d ih=>
  intro m;have H:=ih (by omega);have LF:=F.lay D.head D.base.rm.ok (Lp ord listed) d (by omega);cases hL:Lp ord listed (q+d) with
  | false=>
   have e:V6 b X S q (Lp ord listed) (d+1)=V6 b X S q (Lp ord listed) d:=by simp [V6,hL]
   rw [e];exact H
  | true=>
   cases hm:bY b X S (q+d) with
   | none=>have e:V6 b X S q (Lp ord listed) (d+1)=V6 b X S q (Lp ord listed) d:=(by simp [V6,hL,hm]);rw [e];exact H
   | some y=>obtain⟨i,blk⟩:=y;have e:V6 b X S q (Lp ord listed) (d+1)=(V6 b X S q (Lp ord listed) d).set i blk:=(by simp [V6,hL,hm]);obtain⟨k,l,g⟩:=D.ext d i blk hL hm;rw [e] at k ⊢;have n:=(F.made (p:=q+d) (by omega) hm).1;refine H.add (LF.later (q+d) i blk (lM _) (by omega) hm) (by rw [LF.lim,D.base.lim];omega) ⟨k,l,λc j y o h f=>?_,λc=>(g c).2.2,λc=>(g c).1.2⟩ λc=>(g c).1.1;rcases LF.from_ j y h with h | ⟨d',h1,h2,h3⟩;exact (g c).2.1 j y h f;exact D.ext2 d d' i j blk y (by omega) hL h2 hm h3 c f
def vm (ord:List Nat)(S:Nat->DS)(listed:Array Bool)(p:Nat):d9:=if Lp ord listed p then qJ S p else .undef
def Ra (ord:List Nat)(S:Nat->DS)(listed:Array Bool):Nat->List d9
 | 0=>[]
 | p+1=>vm ord S listed p::Ra ord S listed p
def yc (ord:List Nat)(X:Nat->Nat×Inst)(S:Nat->DS)(listed:Array Bool):Nat->T d9
 | 0=>(S 0).env
 | p+1=>bD (X p).2.dst (vm ord S listed p) (yc ord X S listed p)
def Js (ops:Array Oper)(ord:List Nat)(S:Nat->DS)(listed:Array Bool)(ι:H6)(a0:Act):Nat->Array Value
 | 0=>a0.tmps
 | p+1=>match (ord[p]?).bind λi=>(ops[i]?).bind (·.dst) with
  | some t=>(Js ops ord S listed ι a0 p).setIfInBounds t (l7 ι (vm ord S listed p))
  | none=>Js ops ord S listed ι a0 p
theorem jg:∀p,(Js ops ord S listed ι a0 p).size=a0.tmps.size
 | 0=>rfl
 | p+1=>by simp only [Js];split;simp [jg p];exact jg p
theorem KS (ops:Array Oper)(ord:List Nat)(p:Nat)(hp:p<ord.length):eD ops ord (p+1)=((ord[p]?).bind λi=>(ops[i]?).bind (·.dst))::eD ops ord p:=by unfold eD;rw [adC hp,ac5,List.reverse_append,gy hp];rfl
theorem jw.st (F:Fixed P slots nt cf b ops ord X S)(hb:m0.lim<=b)(D:jw P G b ops ord X S ι0 m0 w0 a0 listed a w ι q)(m:Q6 ι0 (m0.nm ι0) slots (S 0).env a0.tmps)(r:nt<=a0.tmps.size)(d:Nat)(l:q+d<=ord.length):
  ∀p,p<=q+d->St P ι ((V6 b X S q (Lp ord listed) d).nm ι) slots (eD ops ord p) (Ra ord S listed p) (yc ord X S listed p) (Js ops ord S listed ι a0 p):=by
 have H:=D.lay F hb d l;intro p;induction p with
 | zero=>intro _;refine⟨λt k z=>by simp [eD,fO] at z,H.env m,H.rm.glob,H.rm.ghas⟩
 | succ p ih=>
  intro C;have s:=ih (by omega);have g:p<ord.length:=by omega
  obtain⟨i,n⟩:∃i,ord[p]?=some i:=⟨ord[p],gy g⟩;obtain⟨o,u,_,f,_⟩:=F.inst p i n;have B:(vm ord S listed p).lt ((V6 b X S q (Lp ord listed) d).nm ι):=by unfold vm;split;rename_i v;by_cases hpq:p<q;exact d9.L6 (Mem.U2 (λj ⟨y,h1,h2⟩=>⟨y,(F.lay D.head D.base.rm.ok _ d l).sub j y h1 h2,h2⟩) λ_ _=>rfl) _ (D.valsl p hpq);have:=D.vals (p-q) (by rw [show q+(p-q)=p from by omega];exact v);rw [show q+(p-q)=p from by omega] at this;exact d9.L6 (Mem.U2 (λj x=>F.xZ D.head D.base.rm.ok (by omega) l (λ_ _ h=>h) x) λ_ _=>rfl) _ this;trivial
  have c:eD ops ord (p+1)=o.dst::eD ops ord p:=by rw [KS ops ord p g,n];simp [u]
  have:=s.put o.dst (λt A=>by rw [jg];exact q9 (F.din i o t u A) r) B;rw [c];show St P ι _ slots _ (vm ord S listed p::Ra ord S listed p) (bD (X p).2.dst (vm ord S listed p) (yc ord X S listed p)) (Js ops ord S listed ι a0 (p+1));rw [f];have e:Js ops ord S listed ι a0 (p+1)=(match o.dst with | some t=>(Js ops ord S listed ι a0 p).setIfInBounds t (l7 ι (vm ord S listed p)) | none=>Js ops ord S listed ι a0 p):=by simp only [Js,n,ac3,u]
  rw [e];exact this
theorem OX (S:Nat->DS):∀(p k:Nat),k<p->(Ra ord S listed p)[k]?=some (vm ord S listed (p-1-k))
 | 0,k,h=>by omega
 | p+1,0,_=>by simp [Ra]
 | p+1,k+1,h=>by rw [Ra,abW,OX S p k (by omega),show p+1-1-(k+1)=p-1-k from by omega]
theorem Ug (F:Fixed P slots nt cf b ops ord X S){j:Nat}:∀p,p<=ord.length->(∀r,r<p->(X r).2.dst≠some j)->∀ls ls':List d9,D8 (.slot j) ls (yc ord X S listed p)=D8 (.slot j) ls' (S p).env:=by
 intro p;induction p with
 | zero=>intro _ _ ls ls';rfl
 | succ p ih=>intro c h ls ls';obtain⟨_,a⟩:=F.ls (p:=p) (by omega);rw [a];show D8 (.slot j) ls (bD (X p).2.dst (vm ord S listed p) (yc ord X S listed p))=_;rw [CV (h p (by omega)) _ ls ls,CV (h p (by omega)) _ ls' ls'];exact ih (by omega) (λr d=>h r (by omega)) ls ls'
theorem jw.WE (F:Fixed P slots nt cf b ops ord X S)(D:jw P G b ops ord X S ι0 m0 w0 a0 listed a w ι q){p i:Nat}(hp:p<ord.length)(d:∀j,zu ops i j->listed.getD j false=true){y:N9}(h:KP ops ord X p i y):
  Sm id (S p).ls (S p).env (Ra ord S listed p) (yc ord X S listed p) y:=by
 show D8 y (Ra ord S listed p) (yc ord X S listed p)=D8 y (S p).ls (S p).env;cases y with
 | loc k=>
  obtain⟨j,e,f,g⟩:=h;rw [Cj,Cj,OX S p k e,(F.len p (by omega)).2 k e];have:Lp ord listed (p-1-k)=true:=by simp only [Lp,f];exact d j g
  simp [vm,this]
 | slot j=>exact Ug F p (by omega) h _ _
 | con c=>rfl
theorem yg {t:Nat}:∀p,(∀r i o,r<p->ord[r]?=some i->ops[i]?=some o->o.dst≠some t)->(Js ops ord S listed ι a0 p).getD t undef=a0.tmps.getD t undef:=by
 intro p;induction p with
 | zero=>intro _;rfl
 | succ p ih=>intro h;have:=ih λr i o g=>h r i o (by omega);simp only [Js];split;rename_i f a;obtain⟨i,c,a⟩:=aaw.1 a;obtain⟨o,d,a⟩:=aaw.1 a;have b:f≠t:=λe=>h p i o (by omega) c d (by rw [a,e]);rw [Hl,W9 b,← Hl];exact this;exact this
theorem CY (F:Fixed P slots nt cf b ops ord X S)(f:nt<=a0.tmps.size){t r i:Nat}{o:Oper}(k:ord[r]?=some i)(g:ops[i]?=some o)(l:o.dst=some t):∀p,r<p->(Js ops ord S listed ι a0 p).getD t undef=l7 ι (vm ord S listed r):=by
 intro p;induction p with
 | zero=>intro h;omega
 | succ p ih=>
  intro h;simp only [Js];by_cases hrp:r=p;subst hrp;simp only [k,ac3,g,l];rw [Y9 _ _ _ _ (by rw [jg];exact q9 (F.din i o t g l) f),if_pos rfl];have:=ih (by omega);split;rename_i m a;obtain⟨n,c,a⟩:=aaw.1 a;obtain⟨q,j,a⟩:=aaw.1 a;have d:m≠t:=λe=>by subst e;have:=F.dsts i n o q m g j l a;subst this;exact hrp ((acN (gq.1 k).1 F.nodup).1 (k.trans c.symm))
  rw [Hl,W9 d,← Hl];exact this;exact this
theorem jw.looks (F:Fixed P slots nt cf b ops ord X S)(I:nt<=a0.tmps.size)(D:jw P G b ops ord X S ι0 m0 w0 a0 listed a w ι q){p i:Nat}{o:Oper}(hp:ord[p]?=some i)(z:ops[i]?=some o)(B:listed.getD i false=false)
  (v:∀j,zu ops i j->listed.getD j false=true) {t:Nat} (N:t∈vT ops o):a.tmps.getD t undef=(Js ops ord S listed ι a0 p).getD t undef:=by
 by_cases hw:∃j g,ops[j]?=some g∧g.dst=some t∧j≠i;obtain⟨j,g,m,c,x⟩:=hw;obtain⟨r,f⟩:=aao (F.all j (q8.1 m).1);have M:=(gq.1 hp).1;rcases F.looks i o t z N j g m x c with h | h;have L:=v j h;have A:r<p:=by rcases aeO r p with u | u | u;exact u;subst u;rw [hp] at f;exact absurd (Xl f).symm x;exact absurd (dep_before F h hp f) (by omega)
 rw [D.tw r j g t f L m c,CY F I f m c p A];simp [vm,Lp,f,L];have A:p<r:=dep_before F h f hp;have H:listed.getD j false=false:=by
  cases hl:listed.getD j false with
  | false=>rfl
  | true=>have:=h.listed D.closed (D.closed j · hl);rw [B] at this;cases this
 rw [D.tn t ?_,yg p ?_];intro K n s J k d e;have:=F.dsts j n g s t m d c e;subst this;have:K=r:=(acN (gq.1 k).1 F.nodup).1 (k.trans f.symm);omega;intro n s l d e;have:=F.dsts j n g s t m d c e;subst this;rw [H] at l;cases l;have y:∀j g,ops[j]?=some g->g.dst=some t->j=i:=λj g m c=>Classical.byContradiction λE=>hw ⟨j,g,m,c,E⟩;rw [D.tn t ?_,yg p ?_];intro K n s J k d e;have:=y n s d e;subst this;have:K=p:=(acN (gq.1 k).1 F.nodup).1 (k.trans hp.symm);omega;intro n s l d e;have:=y n s d e;subst this;rw [B] at l;cases l
where
 dep_before {P:Program} {slots:List Nat} {nt:Nat} {cf:D7} {b:Nat} {ops:Array Oper} {ord:List Nat} {X:Nat->Nat×Inst} {S:Nat->DS} (F:Fixed P slots nt cf b ops ord X S) {i j:Nat} (h:zu ops i j):∀{p r:Nat},ord[p]?=some i->ord[r]?=some j->r<p:=by
  induction h with
  | @edge i o e z he hb=>intro p r hp f;obtain⟨q,u,C⟩:=F.edges p i o hp z e he hb;have:q=r:=(acN (gq.1 C).1 F.nodup).1 (C.trans f.symm);omega
  | @more i o e j z he hb _ ih=>intro p r hp f;obtain⟨q,u,C⟩:=F.edges p i o hp z e he hb;have:=ih C f;omega
end
section
variable {P:Program}{G:Mem}{slots:List Nat}{nt:Nat}{cf:D7}{b:Nat}{ops:Array Oper}{ord:List Nat}{X:Nat->Nat×Inst}{S:Nat->DS}
variable {ι0 ι:H6}{m0:Mem}{w0 w:World}{a0 a:Act}{listed:Array Bool}{q:Nat}
theorem Step.rename {m:Mem}{o p:H6}(a:Step P G ι0 m0 w0 o m w)(f:∀i,m.has i->p i=o i):Step P G ι0 m0 w0 p m w:=by
 have h:=a.rm;have r:(m.nm o).le (m.nm p):=Mem.U2 (λi k=>k) f;have d:∀i x,m.get i=some x->Q7 x=true->p i=o i:=λi x g l=>f i (pF g l);refine⟨⟨h.ok,?_,?_,h.glim,h.limn,h.gle,h.base,h.ghas,λi k=>by rw [f i (h.ghas i k)];exact h.glob i k,λi x g l=>by rw [d i x g l];exact h.spot i x g l,h.gsz⟩,λi k=>(f i (a.has i k)).trans (a.ext i k),a.has,a.nx,a.lim,a.old,a.size,a.frame,?_,a.os,a.out,a.tape⟩;intro i x g;by_cases hv:bF x=true;cases x<;>first | trivial | cases hv
 rw [f i ⟨x,g,by simpa using hv⟩];exact (h.blk i x g).mono (n:=m.nm o) f r λ_=>rfl;intro i x k g l;have t:=h.own i x k g l;refine⟨λj y z u q=>?_,λc e v s=>?_⟩;rw [d i x g l,d j y u q];exact t.alone j y z u q;rw [d i x g l] at s;exact t.free c e v s;rintro b ⟨i,x,k,g,l,rfl⟩;rw [d i x g l];exact a.own _ ⟨i,x,k,g,l,rfl⟩
theorem sV {p:Nat}(h:Lp ord listed p=true):p<ord.length:=by unfold Lp at h;split at h;rename_i i a;exact (gq.1 a).1;cases h
theorem iJ {p i:Nat}(hp:ord[p]?=some i):Lp ord listed p=listed.getD i false:=by simp [Lp,hp]
theorem U4 (A:Array Bool)(i j:Nat)(a:i<A.size):(A.setIfInBounds i true).getD j false=if j=i then true else A.getD j false:=by rw [Hl,Hl];by_cases h:i=j;subst h;rw [if_pos rfl,X3 a];rfl;rw [if_neg (λe=>h e.symm),W9 h]
theorem NC (a:ord.Nodup){p i:Nat}(hp:ord[p]?=some i)(b:i<listed.size)(r:Nat):Lp ord (listed.setIfInBounds i true) r=if r=p then true else Lp ord listed r:=by
 by_cases hr:r=p;subst hr;rw [iJ hp,U4 _ _ _ b,if_pos rfl,if_pos rfl];rw [if_neg hr];unfold Lp;cases hj:ord[r]? with
 | none=>rfl
 | some j=>show (listed.setIfInBounds i true).getD j false=_;rw [U4 _ _ _ b,if_neg];intro e;subst e;exact hr ((acN (gq.1 hj).1 a).1 (hj.trans hp.symm))
theorem jw.aa1 (F:Fixed P slots nt cf b ops ord X S)(u:nt<=a0.tmps.size)(D:jw P G b ops ord X S ι0 m0 w0 a0 listed a w ι q){p i:Nat}{o:Oper}(hp:ord[p]?=some i)(k:ops[i]?=some o){ι':H6}
  (v:∀r,Lp ord listed r=true->l7 ι' (qJ S r)=l7 ι (qJ S r)):
  (∀r j o' t,ord[r]?=some j->(listed.setIfInBounds i true).getD j false=true->ops[j]?=some o'->o'.dst=some t->(a.put o.dst (l7 ι' (qJ S p))).tmps.getD t undef=l7 ι' (qJ S r))∧
  (∀t,(∀j o',(listed.setIfInBounds i true).getD j false=true->ops[j]?=some o'->o'.dst≠some t)->(a.put o.dst (l7 ι' (qJ S p))).tmps.getD t undef=a0.tmps.getD t undef)∧
  (a.put o.dst (l7 ι' (qJ S p))).tmps.size=a0.tmps.size∧(a.put o.dst (l7 ι' (qJ S p))).defers=a0.defers:=by
 have s:i<listed.size:=by rw [D.len];exact (q8.1 k).1
 refine⟨λr j o' t l f d m=>?_,λt h=>?_,by rw [aQ];exact D.sz,by rw [(fH a o.dst _).2];exact D.defs⟩;rw [(fH a o.dst _).1];rw [U4 _ _ _ s] at f;by_cases hji:j=i;subst hji;rw [k] at d;cases d;have:r=p:=(acN (gq.1 l).1 F.nodup).1 (l.trans hp.symm);subst this;rw [m];show (a.tmps.setIfInBounds t _).getD t undef=_;rw [Y9 _ _ _ _ (by rw [D.sz];exact q9 (F.din _ o t k m) u),if_pos rfl];rw [if_neg hji] at f;have n:=D.tw r j o' t l f d m;rw [v r (by rw [iJ l];exact f),← n];cases hd:o.dst with
 | none=>rfl
 | some t'=>have c:t'≠t:=λe=>hji (F.dsts j i o' o t d k m (by rw [hd,e]));show (a.tmps.setIfInBounds t' _).getD t undef=_;rw [Hl,W9 c,← Hl]
 rw [(fH a o.dst _).1];have g:=h i o (by rw [U4 _ _ _ s,if_pos rfl]) k;have n:=D.tn t λj o' f d=>h j o' (by rw [U4 _ _ _ s];split<;>simp_all) d
 rw [← n];cases hd:o.dst with
 | none=>rfl
 | some t'=>have c:t'≠t:=λe=>g (by rw [hd,e]);show (a.tmps.setIfInBounds t' _).getD t undef=_;rw [Hl,W9 c,← Hl]
theorem jw.closed' (D:jw P G b ops ord X S ι0 m0 w0 a0 listed a w ι q){i:Nat}{o:Oper}(h:ops[i]?=some o)(l:∀e∈o.after,Region.binds .any e=true->listed.getD e.on false=true):
  jf ops (listed.setIfInBounds i true):=by
 have k:i<listed.size:=by rw [D.len];exact (q8.1 h).1
 intro j m d c e g f;rw [U4 _ _ _ k] at d ⊢;by_cases hji:j=i;subst hji;rw [h] at c;cases c;rw [l e g f];split<;>rfl
 rw [if_neg hji] at d;rw [D.closed j m d c e g f];split<;>rfl
theorem jw.quiet (F:Fixed P slots nt cf b ops ord X S)(a4:nt<=a0.tmps.size)(D:jw P G b ops ord X S ι0 m0 w0 a0 listed a w ι q){d i:Nat}{o:Oper}(hp:ord[q+d]?=some i)(ho:ops[i]?=some o)(a6:listed.getD i false=false)
  (hr:∀e∈o.after,Region.binds .any e=true->listed.getD e.on false=true) (hE:L9 (X (q+d)).2=false) {ι':H6} {w':World} (H:Step P G ι (S q).m w ι' (S q).m w') (B:∀k,k<w.heap.size->w'.heap[k]?=w.heap[k]?)
  (a7:∀j,(∀blk,bY b X S (q+d)≠some (j,blk))->ι' j=ι j)
  (z:∀id blk,bY b X S (q+d)=some (id,blk)->bO P ι' ((V6 b X S q (Lp ord (listed.setIfInBounds i true)) (d+1)).nm ι') w'.heap (ι' id) blk∧bF blk=false∧
   (Q7 blk=true->((ι' id).b=w.heap.size∧(ι' id).spot=none)∧∀c e fz,w'.heap[(ι' id).b]?=some (.cells c e fz)->∀k,k<c.size->¬ (fz.1<=k∧k<fz.2)))
  (hV:(qJ S (q+d)).lt ((V6 b X S q (Lp ord (listed.setIfInBounds i true)) (d+1)).nm ι')):
  jw P G b ops ord X S ι0 m0 w0 a0 (listed.setIfInBounds i true) (a.put o.dst (l7 ι' (qJ S (q+d)))) w' ι' q:=by
 have hi:i<listed.size:=by rw [D.len];exact (q8.1 ho).1
 have a2:q+d<ord.length:=(gq.1 hp).1;have N:=NC (listed:=listed) F.nodup hp hi;have u:∀r,Lp ord listed r=true->Lp ord (listed.setIfInBounds i true) r=true:=λr s=>by rw [N];split<;>simp [s]
 have a3:Lp ord listed (q+d)=false:=by rw [iJ hp];exact a6
 have l:∀f,q+f<=ord.length->∀j,(V6 b X S q (Lp ord listed) f).has j->ι' j=ι j:=by intro f K j C;refine a7 j λblk I=>?_;obtain⟨y,h1,h2⟩:=C;have hv:=F.Bw D.head (Nat.le_add_right q d) a2 I;rcases (F.lay D.head D.base.rm.ok (Lp ord listed) f K).from_ j y h1 with h | ⟨d3,h3,h4,h5⟩;rw [hv] at h;cases h;cases h2;rcases aeO d d3 with h6 | h6 | h6;have:=F.FV (p:=q+d) (q:=q+d3) (by omega) (sV h4) I h5;omega;subst h6;rw [a3] at h4;cases h4;have:=F.FV (p:=q+d3) (q:=q+d) (by omega) a2 h5 I;omega
 have a1:∀f,q+f<=ord.length->((V6 b X S q (Lp ord listed) f).nm ι).le ((V6 b X S q (Lp ord (listed.setIfInBounds i true)) f).nm ι'):=λf K=>Mem.U2 (λj C=>F.xZ D.head D.base.rm.ok (lM _) K (λk _ h=>u _ h) C) (l f K);have v:∀f id blk,f≠d->Lp ord listed (q+f)=true->bY b X S (q+f)=some (id,blk)->ι' id=ι id∧(Q7 blk=true->(ι id).b<w.heap.size):=by intro f id blk x s I;have hl:=sV s;obtain⟨g1,g2,_⟩:=D.ext f id blk s I;refine⟨l (f+1) (by omega) id ⟨blk,(F.lay D.head D.base.rm.ok _ (f+1) (by omega)).laid f id blk (by omega) s I,g2⟩,λg=>dB g1 g⟩
 have x:∀f,Lp ord (listed.setIfInBounds i true) (q+f)=true->f≠d->Lp ord listed (q+f)=true:=λf h O=>by rw [N,if_neg (by omega)] at h;exact h
 have V:∀r,Lp ord listed r=true->l7 ι' (qJ S r)=l7 ι (qJ S r):=by intro r s;have hl:=sV s;by_cases hrq:r<q;exact O7 (n:=(S q).m.nm ι) H.ext _ (D.valsl r hrq);have:=D.vals (r-q) (by rw [show q+(r-q)=r from by omega];exact s);rw [show q+(r-q)=r from by omega] at this;exact O7 (n:=(V6 b X S q (Lp ord listed) (r-q+1)).nm ι) (l _ (by omega)) _ this
 obtain⟨t1,t2,t3,t4⟩:=D.aa1 F a4 hp ho V;refine⟨D.hq,D.head,λp U=>u p (D.low p U),λp a5 he=>?_,D.base.trans H,?_,?_,?_,λp U=>?_,t1,t2,t3,t4,D.closed' ho hr,by simpa using D.len⟩;rw [N,if_neg (λe=>by rw [e,hE] at he;cases he)];exact D.high p a5 he;intro f id blk s I;by_cases O:f=d;subst O;obtain⟨g1,g2,M⟩:=z id blk I;refine⟨g1,g2,λg=>⟨⟨by rw [(M g).1.1];exact D.base.size,(M g).1.2⟩,λj y C E=>?_,(M g).2⟩⟩;rw [(M g).1.1,H.ext j (pF C E)];have:=dB (D.base.rm.blk j y C) E;omega;have s:=x f s O;have hl:=sV s;obtain⟨g1,g2,M⟩:=D.ext f id blk s I;obtain⟨Y,Z⟩:=v f id blk O s I;rw [Y];refine⟨g1.mono (l _ (by omega)) (a1 _ (by omega)) λg=>B _ (Z g),g2,λg=>⟨(M g).1,λj y C E=>?_,λc e fz hc=>?_⟩⟩;rw [H.ext j (pF C E)];exact (M g).2.1 j y C E;rw [B _ (Z g)] at hc;exact (M g).2.2 c e fz hc;intro d1 W i1 i2 b1 b2 A J t T L Q R;by_cases h1:d1=d;subst h1;have t:=x W t (λe=>A e.symm);obtain⟨Y,Z⟩:=v W i2 b2 (λe=>A e.symm) t L;rw [((z i1 b1 T).2.2 Q).1.1,Y];have:=Z R;omega;have J:=x d1 J h1;obtain⟨Y,Z⟩:=v d1 i1 b1 h1 J T;by_cases h2:W=d;subst h2;rw [((z i2 b2 L).2.2 R).1.1,Y];have:=Z Q;omega;have t:=x W t h2;rw [Y,(v W i2 b2 h2 t L).1];exact D.ext2 d1 W i1 i2 b1 b2 A J t T L Q R;intro f s;by_cases O:f=d;subst O;exact hV;have s:=x f s O;exact d9.L6 (a1 _ (by have:=sV s;omega)) _ (D.vals f s);exact d9.L6 (Mem.U2 (λj C=>C) H.ext) _ (D.valsl p U)
theorem jw.effect (F:Fixed P slots nt cf b ops ord X S)(hb:m0.lim<=b)(ag:nt<=a0.tmps.size)(D:jw P G b ops ord X S ι0 m0 w0 a0 listed a w ι q){d i:Nat}{o:Oper}(hp:ord[q+d]?=some i)(ho:ops[i]?=some o)(aj:listed.getD i false=false)
  (hr:∀e∈o.after,Region.binds .any e=true->listed.getD e.on false=true) (hE:L9 (X (q+d)).2=true) (J:∀k,k<d->Lp ord listed (q+k)=true) {ι':H6} {w':World} (I:Step P G ι (S (q+d)).m w ι' (S (q+d+1)).m w')
  (hV:(qJ S (q+d)).lt ((S (q+d+1)).m.nm ι')):
  ∃ι'',l7 ι'' (qJ S (q+d))=l7 ι' (qJ S (q+d))∧jw P G b ops ord X S ι0 m0 w0 a0 (listed.setIfInBounds i true) (a.put o.dst (l7 ι'' (qJ S (q+d)))) w' ι'' (q+d+1):=by
 have hi:i<listed.size:=by rw [D.len];exact (q8.1 ho).1
 have ah:q+d<ord.length:=(gq.1 hp).1;have Z:=NC (listed:=listed) F.nodup hp hi;have Y:∀r,Lp ord listed r=true->Lp ord (listed.setIfInBounds i true) r=true:=λr v=>by rw [Z];split<;>simp [v]
 have ac:Lp ord listed (q+d)=false:=by rw [iJ hp];exact aj
 have aa:∀k,k<d->L9 (X (q+k)).2=false:=λk hk=>by
  cases he:L9 (X (q+k)).2 with
  | false=>rfl
  | true=>have C:=D.high (q+k) (by omega) he;rw [J k hk] at C;cases C
 have T:=F.lay_all (L:=Lp ord listed) d (by omega) λk hk=>⟨J k hk,aa k hk⟩;have O:=D.lay F hb d (by omega);rw [T] at O;have LFd:=F.lay D.head D.base.rm.ok (Lp ord listed) d (by omega);have Lsub:=LFd.sub;have Llaid:=LFd.laid;have Lfrom:=LFd.from_;rw [T] at Lsub Llaid Lfrom;have al:bY b X S (q+d)=none:=by
  cases hm:bY b X S (q+d) with
  | none=>rfl
  | some y=>obtain⟨j,f⟩:=y;obtain⟨_,⟨o',C,_⟩,_⟩:=F.made ah hm;simp [L9,C] at hE
 let E:Nat->Prop:=λk=>∃p f,q+d<p∧Lp ord listed p=true∧bY b X S p=some (k,f)
 have x:q+d+1=0∨L9 (X (q+d+1-1)).2=true:=.inr (by rw [ag8];exact hE);have a7:∀k,E k->(S (q+d+1)).m.get k=some .void:=by rintro k ⟨p,f,C,B,h3⟩;exact F.Bw x (by omega) (sV B) h3
 classical
 let ι'':H6:=λk=>if E k then ι k else ι' k
 have U:∀k,E k->ι'' k=ι k:=λk hk=>if_pos hk;have N:∀k,(S (q+d+1)).m.has k->ι'' k=ι' k:=λk ⟨y,C,B⟩=>if_neg λhk=>by rw [a7 k hk] at C;cases C;cases B
 have a2:Step P G ι0 m0 w0 ι'' (S (q+d+1)).m w':=(O.trans I).rename N;have A:Step P G ι (S (q+d)).m w ι'' (S (q+d+1)).m w':=I.rename N;have ab:=a2.rm.ok;have hc:=O7 (n:=(S (q+d+1)).m.nm ι') (ι:=ι') (ι':=ι'') N _ hV;have g:∀d',q+d'<=ord.length->∀j,(V6 b X S q (Lp ord listed) d').has j->ι'' j=ι j∧((S (q+d+1)).m.has j∨∃p f,q+d<p∧p<q+d'∧Lp ord listed p=true∧bY b X S p=some (j,f)∧bF f=false):=by intro d' ad j ⟨y,C,B⟩;have a3:(S (q+d)).m.has j->ι'' j=ι j∧(S (q+d+1)).m.has j:=λs=>⟨A.ext j s,A.has j s⟩;rcases (F.lay D.head D.base.rm.ok (Lp ord listed) d' ad).from_ j y C with h | ⟨d3,h3,h4,h5⟩;obtain⟨e1,e2⟩:=a3 ⟨y,Lsub j y h B,B⟩;exact⟨e1,.inl e2⟩;rcases aeO d3 d with h6 | h6 | h6;obtain⟨e1,e2⟩:=a3 ⟨y,Llaid d3 j y h6 h4 h5,B⟩;exact⟨e1,.inl e2⟩;subst h6;rw [ac] at h4;cases h4;exact⟨U j ⟨q+d3,y,by omega,h4,h5⟩,.inr ⟨q+d3,y,by omega,by omega,h4,h5,B⟩⟩
 have a9:∀u l,q+u=q+d+1+l->q+u<=ord.length->((V6 b X S q (Lp ord listed) u).nm ι).le ((V6 b X S (q+d+1) (Lp ord (listed.setIfInBounds i true)) l).nm ι''):=by intro u l hd Q;refine Mem.U2 (λj s=>?_) λj s=>(g u Q j s).1;have LF':=F.lay x ab (Lp ord (listed.setIfInBounds i true)) l (by omega);rcases (g u Q j s).2 with⟨y,C,B⟩ | ⟨p,f,C,B,h3,h4,h5⟩;exact⟨y,LF'.sub j y C B,B⟩;refine⟨f,LF'.laid (p-(q+d+1)) j f (by omega) (by rw [show q+d+1+(p-(q+d+1))=p from by omega];exact Y p h3) (by rw [show q+d+1+(p-(q+d+1))=p from by omega];exact h4),h5⟩
 have M:∀l,Lp ord (listed.setIfInBounds i true) (q+d+1+l)=true->Lp ord listed (q+(d+1+l))=true:=λl h=>by rw [Z,if_neg (by omega)] at h;rw [show q+(d+1+l)=q+d+1+l from by omega];exact h
 have H:∀u id f,d<u->Lp ord listed (q+u)=true->bY b X S (q+u)=some (id,f)->Q7 f=true->(ι id).b<w.heap.size∧∀j y,(S (q+d)).m.get j=some y->Q7 y=true->(ι j).b≠(ι id).b:=by intro u id f Q v hm t;obtain⟨g1,g2,g3⟩:=D.ext u id f v hm;refine⟨dB g1 t,λj y s z=>?_⟩;rcases Lfrom j y s with h | ⟨d3,h3,h4,h5⟩;exact (g3 t).2.1 j y h z;exact D.ext2 u d3 id j f y (by omega) v h4 hm h5 t z
 have K:∀u id f,d<u->Lp ord listed (q+u)=true->bY b X S (q+u)=some (id,f)->Q7 f=true->w'.heap[(ι id).b]?=w.heap[(ι id).b]?:=by intro u id f Q v hm t;obtain⟨g1,g2⟩:=H u id f Q v hm t;exact I.frame _ g1 λ⟨j,y,_,s,z,e⟩=>g2 j y s z e
 have a6:∀r,Lp ord listed r=true->l7 ι'' (qJ S r)=l7 ι (qJ S r):=by intro r v;have hl:=sV v;by_cases hrq:r<q;have C:=D.valsl r hrq;exact O7 (n:=(S q).m.nm ι) (λj s=>(g 0 (by omega) j s).1) _ C;have:=D.vals (r-q) (by rw [show q+(r-q)=r from by omega];exact v);rw [show q+(r-q)=r from by omega] at this;exact O7 (n:=(V6 b X S q (Lp ord listed) (r-q+1)).nm ι) (λj s=>(g _ (by omega) j s).1) _ this
 obtain⟨t1,t2,t3,t4⟩:=D.aa1 F ag hp ho a6;refine⟨ι'',hc,by omega,x,λp ai=>?_,λp am he=>?_,a2,?_,?_,?_,λp ai=>?_,t1,t2,t3,t4,D.closed' ho hr,by simpa using D.len⟩;rw [Z];split;rfl;by_cases h:p<q;exact D.low p h;have:=J (p-q) (by omega)
 rwa [show q+(p-q)=p from by omega] at this
 rw [Z,if_neg (by omega)];exact D.high p (by omega) he;intro l id f v hm;have v:=M l v;have R:bY b X S (q+(d+1+l))=some (id,f):=by rw [show q+(d+1+l)=q+d+1+l from by omega];exact hm
 have hl:=sV v;obtain⟨g1,g2,g3⟩:=D.ext (d+1+l) id f v R;have e1:ι'' id=ι id:=U id ⟨q+(d+1+l),f,by omega,v,R⟩;rw [e1];refine⟨g1.mono (λj s=>(g _ (by omega) j s).1) (a9 (d+1+l+1) (l+1) (by omega) (by omega)) λt=>K _ id f (by omega) v R t,g2,λt=>⟨(g3 t).1,λj y s z=>?_,λc e fz a8=>?_⟩⟩;obtain⟨n1,n2⟩:=H (d+1+l) id f (by omega) v R t;rw [N j (pF s z)];by_cases hjl:(S (q+d)).m.lim<=j;rcases I.own _ ⟨j,y,by rw [I.lim];exact hjl,s,z,rfl⟩ with⟨j',y',_,a1,hly',e⟩ | h;rw [← e];exact n2 j' y' a1 hly';omega;have a1:(S (q+d)).m.get j=some y:=by rw [← I.old j (by omega)];exact s
 rw [I.ext j (pF a1 z)];exact n2 j y a1 z;rw [K _ id f (by omega) v R t] at a8;exact (g3 t).2.2 c e fz a8;intro u l i1 i2 b1 b2 ak V W a4 a5 ae af;have V:=M u V;have W:=M l W;rw [show q+d+1+u=q+(d+1+u) from by omega] at a4;rw [show q+d+1+l=q+(d+1+l) from by omega] at a5;rw [U i1 ⟨_,b1,by omega,V,a4⟩,U i2 ⟨_,b2,by omega,W,a5⟩];exact D.ext2 (d+1+u) (d+1+l) i1 i2 b1 b2 (by omega) V W a4 a5 ae af;intro l v;have v:=M l v;have hl:=sV v;have:=D.vals (d+1+l) v;rw [show q+(d+1+l)=q+d+1+l from by omega] at this;exact d9.L6 (a9 (d+1+l+1) (l+1) (by omega) (by omega)) _ this;by_cases h:p=q+d;subst h;exact d9.L6 (Mem.U2 (λj s=>s) N) _ hV;by_cases hpq':p<q;refine d9.L6 (Mem.U2 (λj ⟨y,C,B⟩=>?_) λj s=>(g 0 (by omega) j s).1) _ (D.valsl p hpq');exact A.has j ⟨y,Lsub j y C B,B⟩;have:=D.vals (p-q) (by have:=J (p-q) (by omega);exact this);rw [show q+(p-q)=p from by omega] at this;refine d9.L6 (Mem.U2 (λj s=>?_) λj s=>(g _ (by omega) j s).1) _ this;have B:=F.xZ D.head D.base.rm.ok (L:=Lp ord listed) (L':=Lp ord listed) (d:=p-q+1) (d':=d) (by omega) (by omega) (λ_ _ h=>h) s;rw [T] at B;exact A.has j B
end
section
variable {P:Program}{G:Mem}{slots:List Nat}{nt:Nat}{cf:D7}{b:Nat}{ops:Array Oper}{ord:List Nat}{X:Nat->Nat×Inst}{S:Nat->DS}
variable {ι0 ι:H6}{m0:Mem}{w0 w:World}{a0 a:Act}{listed:Array Bool}{q:Nat}
theorem zw {A B:Array Value}(hs:A.size=B.size){t:Nat}(h:A.getD t undef=B.getD t undef):A[t]?=B[t]?:=by
 by_cases ht:t<A.size;have a:t<B.size:=by omega
 rw [Z6 ht,Z6 a];simp only [Array.getD,ht,a,dif_pos] at h;rw [show A.getInternal t ht=A[t] from rfl,show B.getInternal t a=B[t] from rfl] at h;rw [h];rw [aeB (adB ht),aeB (by omega)]
theorem FW {a b:Act}{o:Oper}(h:∀t∈vT ops o,a.tmps.getD t undef=b.tmps.getD t undef):∀x∈o.op.operands,a.eval x=b.eval x:=by
 intro x c;cases x with
 | tmp t=>exact h t (abX _ (List.mem_filterMap.2 ⟨.tmp t,by simpa using c,rfl⟩))
 | _=>rfl
theorem Ai {A B:Array Value}(hs:A.size=B.size){o:Oper}(h:∀t∈vT ops o,A.getD t undef=B.getD t undef):Region.wanted o (yielded ops A)=Region.wanted o (yielded ops B):=by
 unfold Region.wanted;cases hg:o.guard with
 | none=>rfl
 | some p=>
  obtain⟨g,a⟩:=p;have:yielded ops A g=yielded ops B g:=by
   unfold yielded;cases ht:(ops[g]?).bind (·.dst) with
   | none=>rfl
   | some t=>have:=zw hs (h t (ac0 _ (by simp [hg,ht])));simp [this]
  simp only [this]
theorem XB (o:Sn):jr id o=o:=by cases o<;>simp [jr]
theorem XC (o:MO):yR id o=o:=by cases o<;>simp [yR]
theorem XD (o:Qp):bC id o=o:=by cases o<;>simp [bC]
theorem XE (o:Sq):ru id o=o:=by cases o<;>simp [ru]
theorem iy {b:Op}{a:List (Option Nat)}{c:wR}(h:dY P slots a b=some c):∀cs bl,b≠.select cs bl:=by rintro cs bl rfl;cases h
theorem akA {ls ls':List d9}{env a:T d9}{o:Sn}(h:∀x∈eH o,Sm id ls env ls' a x):lX o ls' a=lX o ls env:=by have:=FJ h;rwa [XB] at this
theorem akB {ls ls':List d9}{env a:T d9}{o:MO}(h:∀x∈wS o,Sm id ls env ls' a x)(m:Mem):qo o ls' a m=qo o ls env m:=by have:=FK h m;rwa [XC] at this
theorem akC {ls ls':List d9}{env a:T d9}{o:Qp}(h:∀x∈opsL o,Sm id ls env ls' a x)(i:Nat):uS o ls' a i=uS o ls env i:=by have:=FL h i;rwa [XD] at this
theorem afi {ls ls':List d9}{env a:T d9}{o:Sq}(h:∀x∈opsE o,Sm id ls env ls' a x)(cf:D7)(m:Mem):lY o cf ls' a m=lY o cf ls env m:=by have:=FM h cf m;rwa [XE] at this
theorem Aj {a b:Act}{o:Oper}(h:execOp a.eval o=execOp b.eval o){w:World}{R:Ending->World->Prop}(c:jA P b.eval o w R):jA P a.eval o w R:=by unfold jA at *;rw [h];exact c
theorem Rb {M:Nat}(F:Fixed P slots nt cf b ops ord X S)(d:M<=ord.length)(a:∀p,p<M->Lp ord listed p=true):∀p,p<=M->yc ord X S listed p=(S p).env:=by
 intro p;induction p with
 | zero=>intro _;rfl
 | succ p ih=>intro e;obtain⟨_,c⟩:=F.ls (p:=p) (by omega);rw [c,← ih (by omega)];show bD (X p).2.dst (vm ord S listed p) _=_;simp [vm,a p (by omega)]
theorem Q6.OY {ι:H6}{n:Nm}{env:T d9}{A B:Array Value}(h:Q6 ι n slots env A)(hs:A.size=B.size)(d:∀t,A.getD t undef=B.getD t undef):Q6 ι n slots env B:=
 ⟨h.ok,h.small,λt j e=>by
  obtain⟨f,v,a,b,c⟩:=h.val t j e;exact⟨by omega,v,a,b,by rw [← d];exact c⟩⟩
theorem Uh {v:d9}(h:zU v=true)(n:Nm):v.lt n:=by cases v<;>first | trivial | cases h
def KT (ord:List Nat)(X:Nat->Nat×Inst)(S:Nat->DS)(listed:Array Bool)(N:Nat):Nat->T d9
 | 0=>(S N).env
 | k+1=>if Lp ord listed (N+1+k) then bD (X (N+1+k)).2.dst (qJ S (N+1+k)) (KT ord X S listed N k) else KT ord X S listed N k
def xt (ops:Array Oper)(ord:List Nat)(S:Nat->DS)(listed:Array Bool)(ι:H6)(B:Array Value)(N:Nat):Nat->Array Value
 | 0=>B
 | k+1=>if Lp ord listed (N+1+k) then (match (ord[N+1+k]?).bind λi=>(ops[i]?).bind (·.dst) with
  | some t=>(xt ops ord S listed ι B N k).setIfInBounds t (l7 ι (qJ S (N+1+k)))
  | none=>xt ops ord S listed ι B N k) else xt ops ord S listed ι B N k
theorem yh {B:Array Value}{N:Nat}:∀k,(xt ops ord S listed ι B N k).size=B.size
 | 0=>rfl
 | k+1=>by rw [xt];split;split;rw [ajD,yh k];exact yh k;exact yh k
theorem Im {B:Array Value}{N t:Nat}:∀k,(∀r i o,N<r->r<N+1+k->ord[r]?=some i->ops[i]?=some o->Lp ord listed r=true->o.dst≠some t)->(xt ops ord S listed ι B N k).getD t undef=B.getD t undef
 | 0,_=>rfl
 | k+1,h=>by have ih:=Im (B:=B) k λr i o h1 h2=>h r i o h1 (by omega);rw [xt];split;rename_i hl;split;rename_i t' ht';obtain⟨i,hi,ht'⟩:=aaw.1 ht';obtain⟨o,ho,ht'⟩:=aaw.1 ht';have hne:t'≠t:=λe=>h (N+1+k) i o (by omega) (by omega) hi ho hl (by rw [ht',e]);rw [← ih];simp only [Hl];rw [W9 hne];exact ih;exact ih
theorem OZ {B:Array Value}{N t r i:Nat}{o:Oper}(F:Fixed P slots nt cf b ops ord X S)(htB:t<B.size)(hN:N<r)(hr:ord[r]?=some i)(ho:ops[i]?=some o)(hd:o.dst=some t)(hl:Lp ord listed r=true):∀k,r<N+1+k->(xt ops ord S listed ι B N k).getD t undef=l7 ι (qJ S r)
 | 0,h=>by omega
 | k+1,h=>by
  by_cases hrk:r=N+1+k;subst hrk;rw [xt,if_pos hl,hr];simp only [ac3,ho,hd];rw [Hl,X3 (by rw [yh];exact htB)];rfl;have ih:=OZ (B:=B) F htB hN hr ho hd hl k (by omega);rw [xt];split;split;rename_i t' ht';obtain⟨i',hi',ht'⟩:=aaw.1 ht';obtain⟨o',ho',ht'⟩:=aaw.1 ht';have hne:t'≠t:=by rintro rfl;obtain rfl:=F.dsts i i' o o' t' ho ho' hd ht';have:=(acN (gq.1 hr).1 F.nodup).1 (hr.trans hi'.symm);exact hrk this
  rw [← ih];simp only [Hl];rw [W9 hne];exact ih;exact ih
theorem jw.ng {r:Option Nat}(aj:lI P G cf)(F:Fixed P slots nt cf b ops ord X S)(hb:m0.lim<=b)(ak:Q6 ι0 (m0.nm ι0) slots (S 0).env a0.tmps)(a2:nt<=a0.tmps.size)(D:jw P G b ops ord X S ι0 m0 w0 a0 listed a w ι q)
  {N i:Nat} {o:Oper} {eo:Sq} {y:d9} {m':Mem} (hp:ord[N]?=some i) (ho:ops[i]?=some o) (a5:listed.getD i false=false) (hr:∀e∈o.after,Region.binds .any e=true->listed.getD e.on false=true)
  (hx:(X N).2.op=.e eo) (g:GZ (X N).2.guard (lY eo) cf (S N).ls (S N).env (S N).m=some [⟨.ng y,m'⟩]) (am:∀p,N<p->p<ord.length->Lp ord listed p=true->(X p).2.dst.isSome=true->zU (qJ S p)=true) {K:Act->World->Prop} {Q:Exit->Act->World->Prop}
  (hQ:∀ι' w',Step P G ι0 m0 w0 ι' m' w'->y.lt (m'.nm ι')->Q6 ι' (m'.nm ι') slots (KT ord X S listed N (ord.length-(N+1))) a.tmps->Q (.panic [{v:=l7 ι' y,recovered:=false}]) a w'):wpOpIn (FR r) 0 P ops Q i K a w:=by
 have hi:i<listed.size:=by rw [D.len];exact (q8.1 ho).1
 have a3:N<ord.length:=(gq.1 hp).1;have aw:q<=N:=by rcases aeD N q with h | h;have:=D.low N h;rw [iJ hp,a5] at this;cases this;exact h
 obtain⟨d,rfl⟩:∃d,N=q+d:=⟨N-q,by omega⟩;have A:∀j,zu ops i j->listed.getD j false=true:=λj Y=>Y.listed D.closed λo' M e he a8=>by rw [ho] at M;cases M;exact hr e he a8
 obtain⟨o',M,aq,av,hg⟩:=F.inst (q+d) i hp;rw [ho] at M;cases M;have s:=D.st F hb ak a2 d (by omega) (q+d) (lM _);let af:Act:={tmps:=Js ops ord S listed ι a0 (q+d),defers:=[]}
 have I:∀t∈vT ops o,a.tmps.getD t undef=af.tmps.getD t undef:=λt ht=>D.looks F a2 hp ho a5 A ht;have ar:a.tmps.size=af.tmps.size:=by rw [D.sz];exact jg _ |>.symm
 have a6:=Ai ar I;have au:=mo (tmps:=af.tmps) s hg;have al:(∀cs bl,o.op≠.select cs bl)->execOp a.eval o=execOp af.eval o:=λhs=>execOp_congr o hs (FW I);have ah:∀y∈BM (X (q+d)).2.op,Sm id (S (q+d)).ls (S (q+d)).env (Ra ord S listed (q+d)) (yc ord X S listed (q+d)) y:=λy hy=>D.WE F a3 A (F.WE _ i hp y hy);have f:=D.lay F hb d (by omega);have V:∀y U,(X (q+d)).2.guard=some (y,U)->D8 y (Ra ord S listed (q+d)) (yc ord X S listed (q+d))=D8 y (S (q+d)).ls (S (q+d)).env:=λy U h=>D.WE F a3 A (F.opdg _ i y U hp h);have R:Region.wanted o (yielded ops a.tmps)=rG (X (q+d)).2.guard (S (q+d)).ls (S (q+d)).env:=by
  rw [a6,au];cases hgd:(X (q+d)).2.guard with
  | none=>rfl
  | some z=>obtain⟨y,U⟩:=z;simp only [rG];rw [V y U hgd]
 have a9:∀{ao},(X (q+d)).2.op=ao->ao≠.e .bad->dY P slots (eD ops ord (q+d)) o.op=some ao:=by intro ao g h2;rw [aq] at g;unfold jv at g;split at g;rename_i a' ha;rw [ha,g];exact absurd g.symm h2
 have hE:L9 (X (q+d)).2=true:=by simp [L9,hx]
 have E:∀k,k<d->Lp ord listed (q+k)=true:=λk hk=>by
  have C:q+k<ord.length:=by omega
  have:=A _ (F.eff (q+d) i hp hE (q+k) _ (by omega) (gy C));rw [iJ (gy C)];exact this
 have ad:∀k,k<d->L9 (X (q+k)).2=false:=λk hk=>by
  cases he:L9 (X (q+k)).2 with
  | false=>rfl
  | true=>have g:=D.high (q+k) (by omega) he;rw [E k hk] at g;cases g
 have ac:=F.lay_all (L:=Lp ord listed) d (by omega) λk hk=>⟨E k hk,ad k hk⟩;rw [ac] at s f;have Z:∀p,p<q+d->Lp ord listed p=true:=λp h=>by
  by_cases hpq:p<q;exact D.low p hpq;have:=E (p-q) (by omega)
  rwa [show q+(p-q)=p from by omega] at this
 have aa:Q6 ι ((S (q+d)).m.nm ι) slots (KT ord X S listed (q+d) (ord.length-(q+d+1))) a.tmps:=by
  have he:=s.env;rw [Rb F (aeQ a3) Z (q+d) (lM _)] at he;have ag:∀k,q+d+1+k<=ord.length->Q6 ι ((S (q+d)).m.nm ι) slots (KT ord X S listed (q+d) k) (xt ops ord S listed ι (Js ops ord S listed ι a0 (q+d)) (q+d) k):=by
   intro k;induction k with
   | zero=>intro _;exact he
   | succ k ih=>
    intro hk;have ih:=ih (by omega);rw [KT,xt];cases hL:Lp ord listed (q+d+1+k) with
    | false=>rw [if_neg (by decide),if_neg (by decide)];exact ih
    | true=>
     rw [if_pos rfl,if_pos rfl];have C:q+d+1+k<ord.length:=(by omega);obtain⟨T,l,_,B,_⟩:=F.inst _ _ (gy C);rw [gy C];simp only [ac3,l];cases hds:(X (q+d+1+k)).2.dst with
     | none=>
      have J:Ey slots T.dst=none:=(by rw [← B,hds]);refine⟨ih.ok,ih.small,λt j ht=>?_⟩;obtain⟨g1,v,g2,g3,g4⟩:=ih.val t j ht;cases hod:T.dst with
      | none=>exact⟨g1,v,g2,g3,g4⟩
      | some t'=>rw [hod] at J;have J:idxOf t' slots 0=none:=J;have ap:t'≠t:=λe=>(by rw [e,ht] at J;cases J);refine⟨by simpa using g1,v,g2,g3,?_⟩;rw [← g4];simp only [Hl];rw [W9 ap]
     | some j=>have hv:(qJ S (q+d+1+k)).lt ((S (q+d)).m.nm ι):=Uh (am _ (by omega) C hL (by rw [hds];rfl)) _;have:=ih.put T.dst hv;rw [← hds,B];exact this
  have ab:=ag (ord.length-(q+d+1)) (by omega);refine ab.OY (by rw [yh,jg,D.sz]) λt=>?_;by_cases hw:∃(i':Nat) (oj:Oper),listed.getD i' false=true∧ops[i']?=some oj∧oj.dst=some t;obtain⟨i',oj,W,Y,H⟩:=hw;obtain⟨p',n⟩:=aao (F.all i' (q8.1 Y).1);have ae:=(gq.1 n).1;have a7:Lp ord listed p'=true:=by rw [iJ n];exact W
  rw [D.tw p' i' oj t n W Y H];rcases aeO p' (q+d) with hlt | heq | hgt;rw [Im _ λr2 i2 T g _ O l _ B=>?_,CY F a2 n Y H (q+d) hlt];simp [vm,a7];obtain rfl:=F.dsts i' i2 oj T t Y l H B;have:=(acN ae F.nodup).1 (n.trans O.symm);omega;subst heq;obtain rfl:=Xl (n.symm.trans hp);rw [a5] at W;cases W;have ax:t<nt:=F.din i' oj t Y H;rw [OZ F (by rw [jg];omega) hgt n Y H a7 _ (by omega)];rw [D.tn t λi2 T a1 l a4=>hw ⟨i2,T,a1,l,a4⟩,Im _ λr2 i2 T _ _ O l a1 B=>hw ⟨i2,T,by rw [← iJ O];exact a1,l,B⟩];rw [yg (q+d) λr2 i2 T h2 O l a4=>hw ⟨i2,T,by have:=Z r2 h2;rw [iJ O] at this;exact this,l,a4⟩]
 show wpOpIn (FR r) 0 P ops Q i K a w;unfold wpOpIn;simp only [ho];rw [R];have ai:lY eo cf (S (q+d)).ls (S (q+d)).env (S (q+d)).m=some [⟨.ng y,m'⟩]->o.wpIn (FR r) 0 P a w K Q:=by
  intro g;have an:wR.e eo≠.e .bad:=by intro h;cases h;cases g
  have hc:=a9 hx an;rw [hx] at ah;rw [← afi ah] at g;have:=zn (a:=af) aj s f.rm hc g o rfl;refine lQ (CU (cf:=cf) hc g) (Aj (al (iy hc)) this) ?_ ?_ λ_=>oN;rintro u w' (⟨_,hu,x,hxm,ι',g1,g2,rfl⟩ | ⟨_,_,_,_,_,_,_,h⟩);obtain rfl:=aA.1 hxm;exact g2.elim;cases h;rintro c w' (⟨_,hu,_⟩ | ⟨x,hxm,y',ι',hxy,g1,g2,g3⟩);cases hu;obtain rfl:=aA.1 hxm;cases hxy;cases g3;exact hQ ι' w' (f.trans g1) g2 (g1.env aa)
 cases hgd:(X (q+d)).2.guard with
 | none=>rw [hgd] at g;exact ai g
 | some z=>
  obtain⟨y',U⟩:=z;rw [hgd] at g;have g:bi (nJ U (D8 y' (S (q+d)).ls (S (q+d)).env)) (lY eo cf (S (q+d)).ls (S (q+d)).env (S (q+d)).m) (one .undef (S (q+d)).m)=some [⟨.ng y,m'⟩]:=g;rw [show rG (some (y',U)) (S (q+d)).ls (S (q+d)).env=nJ U (D8 y' (S (q+d)).ls (S (q+d)).env) from rfl];cases hB:nJ U (D8 y' (S (q+d)).ls (S (q+d)).env) with
  | true=>rw [hB] at g;exact ai g
  | false=>rw [hB] at g;have g:[(⟨.undef,(S (q+d)).m⟩:VM)]=[⟨.ng y,m'⟩]:=Xl g;simp at g
theorem Io {x:OF}{ls:List d9}{env:T d9}{M M':Mem}{id off len a:Nat}(c:x ls env=.slice id off len a)(b:M.get id=M'.get id):dX x ls env M=dX x ls env M':=by
 have h:R8 M id off len=R8 M' id off len:=by unfold R8;rw [b]
 unfold dX;rw [c];show ob (R8 M id off len) _=ob (R8 M' id off len) _;rw [h]
theorem jw.op {r:Option Nat}(bf:lI P G cf)(F:Fixed P slots nt cf b ops ord X S)(hb:m0.lim<=b)(bg:Q6 ι0 (m0.nm ι0) slots (S 0).env a0.tmps)(a8:nt<=a0.tmps.size)(D:jw P G b ops ord X S ι0 m0 w0 a0 listed a w ι q)
  {i:Nat} {o:Oper} (ho:ops[i]?=some o) (a9:listed.getD i false=false) (hr:∀e∈o.after,Region.binds .any e=true->listed.getD e.on false=true) (hD:∀p,ord[p]?=some i->DStep cf b (X p) (S p) (S (p+1))) {K:Act->World->Prop} {Q:Exit->Act->World->Prop}
  (hK:∀a' w' ι' q',jw P G b ops ord X S ι0 m0 w0 a0 (listed.setIfInBounds i true) a' w' ι' q'->K a' w'):wpOpIn (FR r) 0 P ops Q i K a w:=by
 have hi:i<listed.size:=by rw [D.len];exact (q8.1 ho).1
 obtain⟨p,hp⟩:=aao (F.all i (q8.1 ho).1);have aq:p<ord.length:=(gq.1 hp).1;have bx:q<=p:=by rcases aeD p q with h | h;have:=D.low p h;rw [iJ hp,a9] at this;cases this;exact h
 obtain⟨d,rfl⟩:∃d,p=q+d:=⟨p-q,by omega⟩;have Z:∀j,zu ops i j->listed.getD j false=true:=λj hj=>hj.listed D.closed λo' ag e he b3=>by rw [ho] at ag;cases ag;exact hr e he b3
 obtain⟨o',ag,bm,bu,hg⟩:=F.inst (q+d) i hp;rw [ho] at ag;cases ag;have s:=D.st F hb bg a8 d (by omega) (q+d) (lM _);let af:Act:={tmps:=Js ops ord S listed ι a0 (q+d),defers:=[]}
 have ad:∀t∈vT ops o,a.tmps.getD t undef=af.tmps.getD t undef:=λt ht=>D.looks F a8 hp ho a9 Z ht;have bp:a.tmps.size=af.tmps.size:=by rw [D.sz];exact jg _ |>.symm
 have ay:=Ai bp ad;have bs:=mo (tmps:=af.tmps) s hg;have a7:(∀cs bl,o.op≠.select cs bl)->execOp a.eval o=execOp af.eval o:=λI=>execOp_congr o I (FW ad);have b1:=NC (listed:=listed) F.nodup hp hi;have a5:∀r,Lp ord listed r=true->Lp ord (listed.setIfInBounds i true) r=true:=λr hL=>by rw [b1];split<;>simp [hL]
 have a2:∀y∈BM (X (q+d)).2.op,Sm id (S (q+d)).ls (S (q+d)).env (Ra ord S listed (q+d)) (yc ord X S listed (q+d)) y:=λy hy=>D.WE F aq Z (F.WE _ i hp y hy);have E:=D.lay F hb d (by omega);have LFd:=F.lay D.head D.base.rm.ok (Lp ord listed) d (by omega);obtain⟨v,_,_,I⟩:=hD (q+d) hp;have C:qJ S (q+d)=v:=by simp [qJ,‹(S (q+d+1)).ls=_›]
 have ap:∀y O,(X (q+d)).2.guard=some (y,O)->D8 y (Ra ord S listed (q+d)) (yc ord X S listed (q+d))=D8 y (S (q+d)).ls (S (q+d)).env:=λy O h=>D.WE F aq Z (F.opdg _ i y O hp h);have ai:Region.wanted o (yielded ops a.tmps)=rG (X (q+d)).2.guard (S (q+d)).ls (S (q+d)).env:=by
  rw [ay,bs];cases hgd:(X (q+d)).2.guard with
  | none=>rfl
  | some z=>obtain⟨y,O⟩:=z;simp only [rG];rw [ap y O hgd]
 have b8:((V6 b X S q (Lp ord listed) d).nm ι).le ((V6 b X S q (Lp ord (listed.setIfInBounds i true)) (d+1)).nm ι):=
  Mem.U2 (λj hj=>F.xZ D.head D.base.rm.ok (by omega) (by omega) (λk _ h=>a5 _ h) hj) λ_ _=>rfl
 have a1:L9 (X (q+d)).2=false->bY b X S (q+d)=none->(qJ S (q+d)).lt ((V6 b X S q (Lp ord listed) d).nm ι)->K (a.put o.dst (l7 ι (qJ S (q+d)))) w:=by intro hE B N;exact hK _ _ ι q (D.quiet F a8 hp ho a9 hr hE (ι':=ι) (w':=w) (Step.refl D.base.rm) (λ_ _=>rfl) (λ_ _=>rfl) (λid am h=>by rw [B] at h;cases h) (d9.L6 b8 _ N))
 show wpOpIn (FR r) 0 P ops Q i K a w;unfold wpOpIn;simp only [ho];rw [ai];have al:L9 (X (q+d)).2=false->bY b X S (q+d)=none->qJ S (q+d)=.undef->(∀f,o.about P w a.eval=some f->(FR r).fn f)∧K (a.put o.dst undef) w:=by intro hE B J;refine⟨λ_ _=>trivial,?_⟩;have:=a1 hE B (by rw [J];trivial);rw [J,jK] at this;exact this
 have a6:∀{ao},(X (q+d)).2.op=ao->ao≠.e .bad->dY P slots (eD ops ord (q+d)) o.op=some ao:=by intro ao A h2;rw [bm] at A;unfold jv at A;split at A;rename_i a' ha;rw [ha,A];exact absurd A.symm h2
 cases hx:(X (q+d)).2.op with
 | p po=>
  rw [hx] at I a2;obtain⟨A,_,_⟩:=I;have hE:L9 (X (q+d)).2=false:=by simp [L9,hx]
  have B:bY b X S (q+d)=none:=by simp [bY,hx]
  have Y:=a6 hx (by simp);have W:lX po (S (q+d)).ls (S (q+d)).env=some v->o.wpIn (FR r) 0 P a w K Q:=by
   intro A;rw [← akA a2] at A;obtain⟨M,U⟩:=qA (a:=af) s Y A;refine gJ (pQ Y (λ_ _ h=>by cases h)) (R:=λu w'=>u=l7 ι v∧w'=w) ?_ ?_;exact M0 (by rw [a7 (iy Y)];exact U o rfl w) ⟨rfl,rfl⟩;rintro u w' ⟨rfl,rfl⟩;have:=a1 hE B (by rw [C];exact M)
   rwa [C] at this
  cases hgd:(X (q+d)).2.guard with
  | none=>rw [hgd] at A;exact W A
  | some z=>
   obtain⟨y,O⟩:=z;rw [hgd] at A;have A:bi (nJ O (D8 y (S (q+d)).ls (S (q+d)).env)) (lX po (S (q+d)).ls (S (q+d)).env) (some .undef)=some v:=A;rw [show rG (some (y,O)) (S (q+d)).ls (S (q+d)).env=nJ O (D8 y (S (q+d)).ls (S (q+d)).env) from rfl];cases hB:nJ O (D8 y (S (q+d)).ls (S (q+d)).env) with
   | true=>rw [hB] at A;exact W A
   | false=>rw [hB] at A;cases A;exact al hE B C
 | r ro=>
  rw [hx] at I a2;obtain⟨A,_,_,_⟩:=I;have hE:L9 (X (q+d)).2=false:=by simp [L9,hx]
  have B:bY b X S (q+d)=none:=by simp [bY,hx]
  have Y:=a6 hx (by simp);have ax:qo ro (S (q+d)).ls (S (q+d)).env (V6 b X S q (Lp ord listed) d)=some v->o.wpIn (FR r) 0 P a w K Q:=by
   intro A;rw [← akB a2] at A;obtain⟨M,U⟩:=qB (a:=af) s E.rm (sJ Y) A;refine gJ (pQ Y (λ_ _ h=>by cases h)) (R:=λu w'=>u=l7 ι v∧w'=w) ?_ ?_;exact M0 (by rw [a7 (iy Y)];exact U o rfl) ⟨rfl,rfl⟩;rintro u w' ⟨rfl,rfl⟩;have:=a1 hE B (by rw [C];exact M)
   rwa [C] at this
  rcases A with⟨A,h2⟩ | ⟨hgn,y,id,off,len,cp,rfl,hv1,au,hv3,hv4⟩
  case inr=>
   obtain⟨q0,k1,k2,k3⟩:=KR X (q+d);have bw:q<=q0:=by rcases D.head with h0 | hh;omega;rcases aeD q0 q with N | hge;have:=k3 (q-1) (by omega) (by omega);rw [this] at hh;cases hh;exact hge
   obtain⟨d0,an⟩:∃d0,q+d=q0+d0:=⟨q+d-q0,by omega⟩;have bh:hd (S (q+d)).m (S (q+d)).gs=(S q0).m:=by
    obtain⟨rr,r1,r2⟩:=F.gs k2 d0 (by omega);rw [← an] at r1 r2;cases rr with
    | succ rr=>obtain⟨az,e,M,U,_,g4,_⟩:=r2 0 (by omega);rw [k3 az M U] at g4;cases g4
    | zero=>
     cases hgs:(S (q+d)).gs with
     | nil=>rw [hgs] at r1;simp at r1
     | cons g gs=>rw [hgs] at r1;simp at r1;exact r1
   rw [bh] at au;have au:=sU au;obtain⟨y1,aj⟩:∃y1,(S (q+d)).m.get id=some y1:=by
    cases hgt:(S (q+d)).m.get id with
    | none=>rw [hgt] at hv3;cases hv3
    | some y1=>exact⟨y1,rfl⟩
   rw [an] at aj k3;rcases F.since (q:=q0) d0 (by omega) k3 aj with h | ⟨p',p1,p2,p3⟩;rw [au] at h;cases h;rw [an,aj] at hv3;cases hv3;rw [← an] at aj p2;obtain⟨x,bt⟩:∃x,J7 P slots (eD ops ord (q+d)) x=some y:=by
    have:=sJ Y;revert this;generalize o.op=op';intro h;cases h with
    | bytesStr _ _ _ hx=>exact⟨_,hx⟩
   have N:=(y9 (a:=af) s bt).2;have bc:D8 y (Ra ord S listed (q+d)) (yc ord X S listed (q+d))=D8 y (S (q+d)).ls (S (q+d)).env:=D.WE F aq Z (F.WE _ i hp y (by rw [hx];simp [BM,wS]));rw [bc,hv1] at N;simp only [d9.lt] at N;obtain⟨y',M,U⟩:=N;have b5:(V6 b X S q (Lp ord listed) d).get id=(S (q+d)).m.get id:=by rcases LFd.from_ id y' M with h | ⟨d',e1,e2,e3⟩;have:=F.Bw D.head (show q<=p' by omega) (by omega) p3;rw [this] at h;cases h;cases U;rcases aeO (q+d') p' with N | heq | hgt;exact absurd (F.FV N (by omega) e3 p3) (aeV _);subst heq;rw [e3] at p3;cases p3;rw [M,aj];exact absurd (F.FV hgt (by omega) p3 e3) (aeV _)
   rw [hgn];refine ax ?_;show dX (D8 y) _ _ _=_;rw [Io hv1 b5];exact hv4
  obtain⟨rr,V,bn⟩:=F.gs D.head d (by omega);have bz:rr<=(X (q+d)).1:=by
   rw [F.cnt (q+d) i ro hp hx];refine vC _ _ _ λk hk=>?_;obtain⟨az,e,M,U,g3,g4,g5⟩:=bn k hk;refine⟨e,g5,?_⟩;cases hm:MW (masks ops.toList) i e with
   | false=>rfl
   | true=>have h3:=Z e (dO ops i e hm);have h4:=D.high az M g4;rw [iJ g3,h3] at h4;cases h4
  have H:vO (X (q+d)).2.guard (qo ro) (S (q+d)).ls (S (q+d)).env (S q).m=some v:=by
   cases rr with
   | zero=>
    have:hd (S (q+d)).m (S (q+d)).gs=(S q).m:=by
     cases hgs:(S (q+d)).gs with
     | nil=>rw [hgs] at V;simp at V
     | cons g gs=>rw [hgs] at V;simp at V;exact V
    rw [this] at A;exact A
   | succ rr=>
    obtain⟨g,M,U⟩:=Ah h2 rr (by omega);have:g=(S q).m:=by
     cases hgs:(S (q+d)).gs with
     | nil=>rw [hgs] at V;simp at V
     | cons g' gs=>rw [hgs] at V M;have M:gs[rr]?=some g:=M;simp at V;rw [M] at V;exact Xl V
    rw [this] at U;exact U
  have W:qo ro (S (q+d)).ls (S (q+d)).env (S q).m=some v->o.wpIn (FR r) 0 P a w K Q:=λA=>ax (XA LFd.sub A);cases hgd:(X (q+d)).2.guard with
  | none=>rw [hgd] at H;exact W H
  | some z=>
   obtain⟨y,O⟩:=z;rw [hgd] at H;have H:bi (nJ O (D8 y (S (q+d)).ls (S (q+d)).env)) (qo ro (S (q+d)).ls (S (q+d)).env (S q).m) (some .undef)=some v:=H;rw [show rG (some (y,O)) (S (q+d)).ls (S (q+d)).env=nJ O (D8 y (S (q+d)).ls (S (q+d)).env) from rfl];cases hB:nJ O (D8 y (S (q+d)).ls (S (q+d)).env) with
   | true=>rw [hB] at H;exact W H
   | false=>rw [hB] at H;cases H;exact al hE B C
 | a lo=>
  rw [hx] at I a2;obtain⟨res,A,J,_,_,_,_⟩:=I;have hE:L9 (X (q+d)).2=false:=by simp [L9,hx]
  have Y:=a6 hx (by simp);have av:res.2=none->bY b X S (q+d)=none:=λh=>by obtain⟨u,bl⟩:=res;obtain rfl:bl=none:=h;simp [bY,hx,A]
  have W:uS lo (S (q+d)).ls (S (q+d)).env (b+(X (q+d)).1)=some res->o.wpIn (FR r) 0 P a w K Q:=by
   intro h3;rw [← akC a2] at h3;have bb:∀bl,res.2=some bl->¬ ((V6 b X S q (Lp ord listed) d).nm ι) (b+(X (q+d)).1):=by
    rintro bl hbl ⟨y,M,U⟩;have hm:bY b X S (q+d)=some (b+(X (q+d)).1,bl):=by obtain⟨u,be⟩:=res;obtain rfl:be=some bl:=hbl;simp [bY,hx,A]
    rw [LFd.later (q+d) _ bl (lM _) aq hm] at M;cases M;cases U
   obtain⟨u,bl⟩:=res;cases bl with
   | none=>
    have B:=av rfl;have ar:=make_none (a:=af) s E.rm Y h3 w;refine gJ (pQ Y (λ_ _ h=>by cases h)) (R:=λx w'=>x=l7 ι u∧w'=w) ?_ ?_;exact M0 (by rw [a7 (iy Y)];exact ar.2 o rfl w) ⟨rfl,rfl⟩;rintro x w' ⟨rfl,rfl⟩;have:=a1 hE B (by rw [C,J];exact ar.1)
    rwa [C,J] at this
   | some bl=>
    have hm:bY b X S (q+d)=some (b+(X (q+d)).1,bl):=(by simp [bY,hx,A]);have hn:=bb bl rfl;have ar:=qE (a:=af) s (λ_ _=>rfl) hn (xG Y) h3 w;have b6:∀l:Loc,∀j,(∀am,bY b X S (q+d)≠some (j,am))->(ι.upd (b+(X (q+d)).1) l) j=ι j:=λl j hj=>ι.upd_ne l λe=>hj bl (by rw [e];exact hm);have b2:¬ (S q).m.has (b+(X (q+d)).1):=λ⟨y,M,U⟩=>hn ⟨y,LFd.sub _ y M U,U⟩;have aw:∀l:Loc,∀j,(V6 b X S q (Lp ord listed) d).has j->(ι.upd (b+(X (q+d)).1) l) j=ι j:=λl j hj=>ι.upd_ne l λe=>hn (e▸hj);have ac:∀l:Loc,((V6 b X S q (Lp ord listed) d).nm ι).le ((V6 b X S q (Lp ord (listed.setIfInBounds i true)) (d+1)).nm (ι.upd (b+(X (q+d)).1) l)):=λl=>Mem.U2 (λj hj=>F.xZ D.head D.base.rm.ok (by omega) (by omega) (λk _ h=>a5 _ h) hj) (aw l)
    have ah:bF bl=false->(V6 b X S q (Lp ord (listed.setIfInBounds i true)) (d+1)).has (b+(X (q+d)).1):=λbr=>⟨bl,(F.lay D.head D.base.rm.ok _ (d+1) (by omega)).laid d _ bl (by omega) (by rw [b1,if_pos rfl]) hm,br⟩;have ab:∀l:Loc,((V6 b X S q (Lp ord (listed.setIfInBounds i true)) (d+1)).nm (ι.upd (b+(X (q+d)).1) l)).cap (b+(X (q+d)).1)=l.cap:=λl=>(by show ((ι.upd (b+(X (q+d)).1) l) (b+(X (q+d)).1)).cap=l.cap;rw [H6.S9]);cases ar with
    | made l obj w' B=>
     obtain⟨M,U⟩:=B.blk _ (ac l) (ah B.live) (ab l);refine gJ (pQ Y (λ_ _ h=>by cases h)) (R:=λx a4=>x=l7 (ι.upd (b+(X (q+d)).1) l) u∧a4=w') ?_ ?_;exact M0 (by rw [a7 (iy Y)];exact B.run o rfl) ⟨rfl,rfl⟩;rintro x a4 ⟨rfl,rfl⟩;have:=D.quiet F a8 hp ho a9 hr hE (ι':=ι.upd (b+(X (q+d)).1) l) (w':=a4) (Step.push D.base.rm B.grew λj hj=>ι.upd_ne l λe=>b2 (e▸hj))
      (λk hk=>by rw [B.grew.heap];exact (agb hk).trans (Z6 hk).symm) (b6 l) (λid am ae=>?_) (by rw [C,J];exact U)
     rw [C,J] at this;exact hK _ _ _ q this;rw [hm] at ae;cases ae;rw [H6.S9];refine⟨by rw [B.grew.heap];exact M,B.live,λ_=>⟨⟨B.loc,B.spot⟩,λc e fz b4=>?_⟩⟩;rw [B.grew.heap,B.loc,bK] at b4;exact B.free c e fz (Xl b4)
    | @tail _ pp l hpn hbb hgv N=>
     refine gJ (pQ Y (λ_ _ h=>by cases h)) (R:=λx a4=>x=l7 (ι.upd (b+(X (q+d)).1) l) u∧a4=w) ?_ ?_;exact M0 (by rw [a7 (iy Y)];exact hgv o rfl w) ⟨rfl,rfl⟩;rintro x a4 ⟨rfl,rfl⟩;have:=D.quiet F a8 hp ho a9 hr hE (ι':=ι.upd (b+(X (q+d)).1) l) (w':=a4) ((Step.refl D.base.rm).rename λj hj=>ι.upd_ne l λe=>b2 (e▸hj))
      (λk hk=>rfl) (b6 l) (λid am ae=>?_) (by rw [C,J];exact N _ (ac l) (ah rfl) (ab l))
     rw [C,J] at this;exact hK _ _ _ q this;rw [hm] at ae;cases ae;rw [H6.S9];refine⟨⟨(ac l pp hpn).1,?_⟩,rfl,λhl=>by cases hl⟩;rw [aw l pp hpn];exact hbb
  cases hgd:(X (q+d)).2.guard with
  | none=>rw [hgd] at A;exact W A
  | some z=>
   obtain⟨y,O⟩:=z;have a3:=A;rw [hgd] at a3;have a3:bi (nJ O (D8 y (S (q+d)).ls (S (q+d)).env)) (uS lo (S (q+d)).ls (S (q+d)).env (b+(X (q+d)).1)) (some (.undef,none))=some res:=a3;rw [show rG (some (y,O)) (S (q+d)).ls (S (q+d)).env=nJ O (D8 y (S (q+d)).ls (S (q+d)).env) from rfl];cases hB:nJ O (D8 y (S (q+d)).ls (S (q+d)).env) with
   | true=>rw [hB] at a3;exact W a3
   | false=>rw [hB] at a3;cases a3;exact al hE (av rfl) (by rw [C,J])
 | e eo=>
  rw [hx] at I a2;obtain⟨A,_,bk⟩:=I;have hE:L9 (X (q+d)).2=true:=by simp [L9,hx]
  have aa:∀k,k<d->Lp ord listed (q+k)=true:=λk hk=>by
   have b7:q+k<ord.length:=by omega
   have:=Z _ (F.eff (q+d) i hp hE (q+k) _ (by omega) (gy b7));rw [iJ (gy b7)];exact this
  have ba:∀k,k<d->L9 (X (q+k)).2=false:=λk hk=>by
   cases he:L9 (X (q+k)).2 with
   | false=>rfl
   | true=>have A:=D.high (q+k) (by omega) he;rw [aa k hk] at A;cases A
  have b9:=F.lay_all (L:=Lp ord listed) d (by omega) λk hk=>⟨aa k hk,ba k hk⟩;rw [b9] at s E;have b0:∀ι' w',Step P G ι (S (q+d)).m w ι' (S (q+d+1)).m w'->v.lt ((S (q+d+1)).m.nm ι')->K (a.put o.dst (l7 ι' v)) w':=by intro ι' w' bo N;obtain⟨bv,M,U⟩:=D.effect F hb a8 hp ho a9 hr hE aa bo (by rw [C];exact N);rw [M,C] at U;exact hK _ _ _ _ U
  have W:lY eo cf (S (q+d)).ls (S (q+d)).env (S (q+d)).m=some [⟨v,(S (q+d+1)).m⟩]->o.wpIn (FR r) 0 P a w K Q:=by
   intro A;have bj:wR.e eo≠.e .bad:=by intro h;cases h;cases A
   have Y:=a6 hx bj;rw [← afi a2] at A;have:=zn (a:=af) bf s E.rm Y A o rfl;refine lQ (CU (cf:=cf) Y A) (Aj (a7 (iy Y)) this) ?_ ?_ λ_=>oN;rintro u w' (⟨_,hu,x,hxm,ι',M,U,rfl⟩ | ⟨_,_,_,_,_,_,_,h⟩);cases hu;obtain rfl:=aA.1 hxm;exact b0 ι' w' M U;cases h;rintro c w' (⟨_,hu,_⟩ | ⟨x,hxm,y,_,hxy,_⟩);cases hu;obtain rfl:=aA.1 hxm;exact absurd ⟨y,hxy⟩ bk
  cases hgd:(X (q+d)).2.guard with
  | none=>rw [hgd] at A;exact W A
  | some z=>
   obtain⟨y,O⟩:=z;rw [hgd] at A;have A:bi (nJ O (D8 y (S (q+d)).ls (S (q+d)).env)) (lY eo cf (S (q+d)).ls (S (q+d)).env (S (q+d)).m) (one .undef (S (q+d)).m)=some [⟨v,(S (q+d+1)).m⟩]:=A;rw [show rG (some (y,O)) (S (q+d)).ls (S (q+d)).env=nJ O (D8 y (S (q+d)).ls (S (q+d)).env) from rfl];cases hB:nJ O (D8 y (S (q+d)).ls (S (q+d)).env) with
   | true=>rw [hB] at A;exact W A
   | false=>rw [hB] at A;have A:[(⟨.undef,(S (q+d)).m⟩:VM)]=[⟨v,(S (q+d+1)).m⟩]:=Xl A;simp only [aeG,VM.mk.injEq,and_true] at A;obtain⟨J,hm⟩:=A;refine⟨λ_ _=>trivial,?_⟩;have:=b0 ι w (by rw [← hm];exact Step.refl E.rm) (by rw [← J];trivial);rw [← J,jK] at this;exact this
where
 make_none {P:Program} {G:Mem} {ι:H6} {m:Mem} {w0:World} {slots:List Nat} {done:List (Option Nat)} {ls:List d9} {env:T d9} {a:Act} (s:St P ι (m.nm ι) slots done ls env a.tmps) (hm:RM P G ι m w0.heap) {op:Op} {lo:Qp} (h:dY P slots done op=some (.a lo)) {u:d9} {nid:Nat}
   (J:uS lo ls env nid=some (u,none)) (w:World):u.lt (m.nm ι)∧Gives P a.eval op (l7 ι u):=by
  have hn:¬ (m.nm ι) m.nx:=λ⟨_,h3,_⟩=>aeV _ (Mem.F9 hm.ok h3);have bq:=sl_place J m.nx;have I:=qE (a:=a) s (λ_ _=>rfl) hn (xG h) bq w;cases I with
  | none A h2=>exact⟨A,h2⟩
 sl_place {lo:Qp} {ls:List d9} {env:T d9} {u:d9} {nid:Nat} (J:uS lo ls env nid=some (u,none)) (nid':Nat):uS lo ls env nid'=some (u,none):=by
  cases lo with
  | alloc z=>cases J
  | box x=>cases J
  | allocT t z=>cases J
  | boxT t k x=>obtain⟨_,h⟩:=D5 J;cases h
  | mkMap=>cases J
  | buildSlice es len z ps=>obtain⟨c,A,h⟩:=z8 J;obtain⟨c2,h2,h⟩:=z8 h;cases h
  | mkSlice es by' z l c=>obtain⟨_,_,_,h⟩:=dM J;obtain⟨_,_,_,h⟩:=dM h;obtain⟨_,h⟩:=D5 h;obtain⟨_,h⟩:=D5 h;obtain⟨_,h⟩:=D5 h;cases h
  | strBytes x=>obtain⟨_,_,h⟩:=fE J;obtain⟨_,_,h⟩:=z8 h;cases h
  | sl es x lo hi=>
   have bd:∀l h,J6 nid es (D8 x ls env) l h=some (u,none)->J6 nid' es (D8 x ls env) l h=some (u,none):=by
    intro l h I;generalize D8 x ls env=X at I;cases X with
    | nilSlice=>exact I
    | slice=>exact I
    | sliceU id off len es'=>
     have hu:∀hh,J6.unk nid es l id off len es' hh=some (u,none)->J6.unk nid' es l id off len es' hh=some (u,none):=by
      intro hh I;unfold J6.unk at I ⊢;obtain⟨q1,I⟩:=D5 I;obtain⟨q2,I⟩:=D5 I;obtain⟨q3,I⟩:=D5 I;rw [q1,q2,q3];simp only [U0];cases hb:Nat.blt l len with
      | true=>rw [hb] at I;exact I
      | false=>
       rw [hb] at I;simp only [O6] at I ⊢;cases hz:Nat.beq l 0 with
       | true=>rw [hz] at I;exact I
       | false=>rw [hz] at I;cases I
     cases h with
     | none=>exact hu len I
     | some hh=>exact hu hh I
    | _=>exact I
   have J:dJ (jC lo) 0 ls env (λl=>Option.rec (J6 nid es (D8 x ls env) l none) (λh=>iM (h ls env) λh=>J6 nid es (D8 x ls env) l (some h)) (jC hi))=some (u,none):=J;show dJ (jC lo) 0 ls env (λl=>Option.rec (J6 nid' es (D8 x ls env) l none) (λh=>iM (h ls env) λh=>J6 nid' es (D8 x ls env) l (some h)) (jC hi))=some (u,none);have ak:∀l,(Option.rec (J6 nid es (D8 x ls env) l none) (λh=>iM (h ls env) λh=>J6 nid es (D8 x ls env) l (some h)) (jC hi):LR)=some (u,none)->
     (Option.rec (J6 nid' es (D8 x ls env) l none) (λh=>iM (h ls env) λh=>J6 nid' es (D8 x ls env) l (some h)) (jC hi):LR)=some (u,none):=by
    intro l h;cases ht:jC hi with
    | none=>rw [ht] at h;exact bd l none h
    | some g=>rw [ht] at h;obtain⟨k,n,A,h2⟩:=dM h;show iM (g ls env) (λh=>J6 nid' es (D8 x ls env) l (some h))=_;rw [A];exact bd l (some n) h2
   cases ht:jC lo with
   | none=>rw [ht] at J;exact ak 0 J
   | some g=>rw [ht] at J;obtain⟨k,n,A,h2⟩:=dM J;show iM (g ls env) _=_;rw [A];exact ak n h2
end
end
end Go.AM
