/- A part of an evaluator for the model, proved sound: what it answers holds of the model; it speaks of every program, no condition. -/
import Derived.Test.YtfnlnpllpfhhnaaGreatDoorQA4
import Derived.Deep.Slices
import Derived.Below
import Derived.Lib.SplitLaws
import Derived.Lib.Join
import Derived.Lib.SmallJoins
import Derived.KernelRfl
set_option linter.all false
namespace Go.AM
open Go
section
variable {P:Program}
structure Sum where
 f:FuncId
 args:List d9
 bs:List NB
 a:EK
noncomputable def sumOf (l:List Sum)(f:FuncId)(args:List d9)(bs:List NB):Option EK:=
 List.rec none (λs _ ih=>bi (Nat.beq s.f f) (bi (vN (bS 100) s.args args) (bi (ou s.bs bs) (some s.a) ih) ih) ih) l
theorem Cj {G:Mem}:∀(l:List Sum),(∀s∈l,lF P G s.f s.args s.bs s.a)->∀f args bs a,sumOf l f args bs=some a->lF P G f args bs a
 | [],_,f,args,bs,a,h=>by cases h
 | s::l,hl,f,args,bs,a,h=>by
  have ih:=Cj l (λs hs=>hl s (by simp [hs])) f args bs a;have h:bi (Nat.beq s.f f) (bi (vN (bS 100) s.args args) (bi (ou s.bs bs) (some s.a) (sumOf l f args bs)) (sumOf l f args bs)) (sumOf l f args bs)=some a:=h;cases h1:Nat.beq s.f f with
  | false=>rw [h1] at h;exact ih h
  | true=>
   rw [h1] at h;cases h2:vN (bS 100) s.args args with
   | false=>rw [h2] at h;exact ih h
   | true=>
    rw [h2] at h;cases h3:ou s.bs bs with
    | false=>rw [h3] at h;exact ih h
    | true=>rw [h3] at h;have h:some s.a=some a:=h;cases h;rw [← l7 h1,← oH (lV 100) _ _ h2,← tF _ _ h3];exact hl s (by simp)
structure KOk (P:Program)(K:Known):Prop where
 mix:P.follows .mixedOrders=true
 fns:∀f sf,K.fns f=some sf->sI P f sf
 base:∃Ng,Oy K.base Ng
 sum:∀f args bs a,K.sum f args bs=some a->lF P K.base f args bs a
theorem zB (K:Known)(a:Nat)(b:Fn)(args:List d9)(m:Mem):l8 K a 0 b args m=none:=rfl
theorem mJ (K:Known)(fuel n:Nat)(fn:Fn)(args:List d9)(m:Mem):l8 K fuel (n+1) fn args m=match fn with
  | .func f=>ob (K.fns f) λsf=>bi sf.pure (xO K (l8 K fuel n) fuel f sf args m) (dI (l8 K fuel n) (Gt K (l8 K fuel n) fuel) fuel sf args m)
  | .yield l=>NP (l8 K fuel n) fuel l args m
  | _=>none:=rfl
theorem QX {K:Known}(i:KOk P K){cf:H7}(d:uq P K.base cf){c:Nat}{f:FuncId}{sf:L6}(j:sI P f sf){args:List d9}{g:List NB}{a:EK}(h:Gu K cf c f sf args g=some a):lF P K.base f args g a:=by
 unfold Gu at h;cases hs:K.sum f args g with
 | some b=>rw [hs] at h;have h:some b=some a:=h;cases h;exact i.sum f args g _ hs
 | none=>rw [hs] at h;exact TN d (ME i.fns d c λe k r=>rH i.mix d e k r) i.mix c j h
theorem MH {K:Known}(e:KOk P K)(d:Nat):∀n,uq P K.base (l8 K d n):=by
 intro n;induction n with
 | zero=>exact⟨(λh=>by rw [zB] at h;cases h),(λh=>by rw [zB] at h;cases h),(λh=>by rw [zB] at h;cases h)⟩
 | succ n ih=>
  refine⟨λ{f args m outs} h=>?_,λ{l args m outs} h {ι w} hm hargs=>?_,λ{fn args m outs} h=>?_⟩;rw [mJ] at h;obtain⟨j,k,h⟩:=D9 h;have i:=e.fns f j k;refine⟨i.ok,λ{ι w} hm hargs=>?_⟩;cases hp:j.pure with
  | false=>rw [hp] at h;exact QI ih (ME e.fns ih d λb g r=>rH e.mix ih b g r) d (λb g r=>rH e.mix ih b g r) i h hm hargs
  | true=>rw [hp] at h;have h:xO K (l8 K d n) d f j args m=some outs:=h;obtain⟨c,o,h⟩:=D9 h;obtain⟨a,p,h⟩:=D9 h;obtain⟨v,q,h⟩:=D9 h;obtain⟨t,s,h⟩:=D9 h;cases h;exact QW e.base hm hargs o (QX e ih i p) q s
  rw [mJ] at h;exact QH ih d (λb g r=>rH e.mix ih b g r) h hm hargs;rw [mJ] at h;cases fn with
  | func f=>exact .inl ⟨f,rfl⟩
  | yield l=>exact .inr ⟨l,rfl⟩
  | _=>cases h
theorem TQ {K:Known}(d:KOk P K){b n:Nat}{f:FuncId}{sf:L6}(e:sI P f sf){args:List d9}{c:List NB}{a:EK}(h:Gu K (l8 K b n) b f sf args c=some a):lF P K.base f args c a:=
 QX d (MH d b n) e h
end
noncomputable def TR (pure rc:Bool)(a:AFn):L6:=⟨pure,a.args,a.nslots,a.results,xL a.body,bif rc then some a.body else none⟩
theorem VO {P:Program}{d:List Nat}{f:FuncId}{a:AFn}(h:YP P d f=some a)(j m:Bool):sI P f (TR j m a):=by
 unfold YP at h;split at h;cases h;rename_i k g;split at h;cases h;rename_i c l;split at h;rename_i b r s u;split at h;rename_i i;cases h;simp only [rW,bne_iff_ne,ne_eq] at i;obtain⟨⟨⟨n,o⟩,p⟩,q⟩:=i;refine⟨⟨k,g,by rw [l];rfl,q⟩,d,k,c,b,r,g,l,s,u,n,λt v=>?_,?_,rfl,rfl,rfl,rfl,λw e=>?_⟩;exact Eq.mp O6 (acI.1 o t v);have:d.length<1152921504606846976:=Eq.mp O6 p;exact this;cases m with
 | true=>exact (su e).symm
 | false=>cases e
 cases h;cases h
theorem Oz {P:Program}{b:List Nat}{f:FuncId}{c d:Bool}{sf:L6}(h:(YP P b f).map (TR c d)=some sf):sI P f sf:=by
 cases hc:YP P b f with
 | none=>rw [hc] at h;cases h
 | some a=>rw [hc] at h;cases h;exact VO hc c d
end Go.AM
namespace Go.AM
open Go
noncomputable section
def TOk (P:Program)(r:Nat->Nat)(t:T (Option L6)):Prop:=∀i sf,t.get i=some (some sf)->sI P (r i) sf
theorem aA4 {P:Program}{r:Nat->Nat}:TOk P r .e:=λi a h=>by cases h
def OOk (P:Program)(i:Nat)(o:Option L6):Prop:=∀sf,o=some sf->sI P i sf
theorem aA6 {P:Program}{i:Nat}:OOk P i none:=λ_ h=>by cases h
theorem aA7 {P:Program}{i:Nat}{sf:L6}(h:sI P i sf):OOk P i (some sf):=λ_ e=>by cases e;exact h
theorem amS {P:Program}{r:Nat->Nat}{a b:T (Option L6)}{x:Option L6}(d:TOk P (λi=>r (2*i+1)) a)(f:OOk P (r 0) x)(hb:TOk P (λi=>r (2*i+2)) b):TOk P r (.nd a x b):=by
 intro i sf h;cases i with
 | zero=>exact f sf (su h)
 | succ j=>
  have h:(Nat.rec (a.get (Nat.div j 2)) (λ_ _=>b.get (Nat.div j 2)) (Nat.mod j 2):Option (Option L6))=some (some sf):=h;rcases acz j with h2 | h2;have c:Nat.mod j 2=0:=h2;rw [c] at h;have:=d _ sf h;have e:2*Nat.div j 2+1=j+1:=by have:Nat.div j 2=j / 2:=rfl;omega
  have this:sI P (r (2*Nat.div j 2+1)) sf:=this;rw [e] at this;exact this;have c:Nat.mod j 2=1:=h2;rw [c] at h;have:=hb _ sf h;have e:2*Nat.div j 2+2=j+1:=by have:Nat.div j 2=j / 2:=rfl;omega
  have this:sI P (r (2*Nat.div j 2+2)) sf:=this;rw [e] at this;exact this
theorem aa4 {P:Program}{t:T (Option L6)}(h:TOk P (λi=>i) t):∀f sf,ob (t.get f) (λx=>x)=some sf->sI P f sf:=by intro f sf c;obtain⟨x,b,a⟩:=D9 c;have a:x=some sf:=a;rw [a] at b;exact h f sf b
section
variable {α β γ:Type}
@[simp] theorem ayZ (a:α)(f:α->Option (List β)):bnd (some [a]) f=f a:=_root_.id rfl
@[simp] theorem amT (a:α)(f:α->Option β):Tc (some [a]) f=f a:=_root_.id rfl
end
section
variable (k:IntKind)(b:Bool)(n:Int)(s:List UInt8)(i o l c:Nat)(v:d9)(as bs:List d9)(fn:Fn){β:Type}
@[simp] theorem alU (p:d9->β)(q:β):jf (.bool b) p q=q:=_root_.id rfl
@[simp] theorem amU (p:d9->β)(q:β):jf (.int k n) p q=q:=_root_.id rfl
@[simp] theorem amV (p:d9->β)(q:β):jf (.str s) p q=q:=_root_.id rfl
@[simp] theorem acC (p:d9->β)(q:β):jf .nilSlice p q=q:=_root_.id rfl
@[simp] theorem aj9 (p:d9->β)(q:β):jf (.slice i o l c) p q=q:=_root_.id rfl
@[simp] theorem agw (p:d9->β)(q:β):jf (.sliceU i o l c) p q=q:=_root_.id rfl
@[simp] theorem amW (p:d9->β)(q:β):jf (.map i) p q=q:=_root_.id rfl
@[simp] theorem alV (p:d9->β)(q:β):jf (.func fn as bs) p q=q:=_root_.id rfl
@[simp] theorem amX (p:d9->β)(q:β):jf (.agg as) p q=q:=_root_.id rfl
@[simp] theorem aja (p:d9->β)(q:β):jf (.tuple as) p q=q:=_root_.id rfl
@[simp] theorem ajb (p:d9->β)(q:β):jf .undef p q=q:=_root_.id rfl
@[simp] theorem amY (p:d9->β)(q:β):jf (.aY v) p q=p v:=_root_.id rfl
end
@[simp] theorem aA8 (x:d9)(ls:List d9)(env:T d9):L8 (x::ls) env=x:=_root_.id rfl
@[simp] theorem aA9 (a x:d9)(ls:List d9)(env:T d9):sj (a::x::ls) env=x:=_root_.id rfl
@[simp] theorem aAa (a b x:d9)(ls:List d9)(env:T d9):jd (a::b::x::ls) env=x:=_root_.id rfl
@[simp] theorem aAb (a b c x:d9)(ls:List d9)(env:T d9):sM (a::b::c::x::ls) env=x:=_root_.id rfl
@[simp] theorem az0 (k:Nat)(ls:List d9)(env:T d9):aS k ls env=ls[k]?.getD .undef:=Zv k ls
@[simp] theorem az1 (v:d9)(ls:List d9)(env:T d9):bg v ls env=v:=_root_.id rfl
@[simp] theorem amZ (g:T d9->d9)(ls:List d9)(env:T d9):G7 g ls env=g env:=_root_.id rfl
@[simp] theorem aE9 (l r:T d9)(x:d9):gH (.nd l x r)=x:=_root_.id rfl
@[simp] theorem aEa (g:T d9->d9)(l r:T d9)(x:d9):gL g (.nd l x r)=g l:=_root_.id rfl
@[simp] theorem aEb (g:T d9->d9)(l r:T d9)(x:d9):gR g (.nd l x r)=g r:=_root_.id rfl
@[simp] theorem aEc (v:d9)(l r:T d9)(x:d9):sH v (.nd l x r)=.nd l v r:=_root_.id rfl
@[simp] theorem aEd (s:d9->T d9->T d9)(v:d9)(l r:T d9)(x:d9):sL s v (.nd l x r)=.nd (s v l) x r:=_root_.id rfl
@[simp] theorem aEe (s:d9->T d9->T d9)(v:d9)(l r:T d9)(x:d9):sR s v (.nd l x r)=.nd l x (s v r):=_root_.id rfl
@[simp] theorem aAc (v:d9)(t:T d9):gF v t=t:=_root_.id rfl
@[simp] theorem az2 (ls:List d9)(env:T d9):evs [] ls env=[]:=_root_.id rfl
@[simp] theorem an0 (x:OF)(l:List OF)(ls:List d9)(env:T d9):evs (x::l) ls env=x ls env::evs l ls env:=_root_.id rfl
section
variable {β:Type}(ls:List d9)(env:T d9)(m:Mem)
@[simp] theorem az3 (x:OF):eF x ls env=some (x ls env):=_root_.id rfl
@[simp] theorem an1 (c a b:OF):bF c a b ls env=qU (c ls env) λt=>some (bi t (a ls env) (b ls env)):=_root_.id rfl
@[simp] theorem an2 (b:Bool)(k:Bool->Option β):qU (.bool b) k=k b:=_root_.id rfl
@[simp] theorem az4 (k:IntKind)(n:Int)(f:IntKind->Int->Option β):xD (.int k n) f=f k n:=_root_.id rfl
@[simp] theorem Io (s:List UInt8)(f:List UInt8->Option β):xg (.str s) f=f s:=_root_.id rfl
@[simp] theorem az5 (i o:Nat)(f:Nat->Nat->Option β):pG (.ptr i o) f=f i o:=_root_.id rfl
@[simp] theorem az6 (l:List d9)(f:List d9->Option β):EX (.agg l) f=f l:=_root_.id rfl
@[simp] theorem az7 (l:List d9)(f:List d9->Option β):PG (.tuple l) f=f l:=_root_.id rfl
@[simp] theorem az8 (i:Nat)(z:Option β)(f:Nat->Option β):AR (.map i) z f=f i:=_root_.id rfl
@[simp] theorem az9 (z:Option β)(f g:Nat->Nat->Nat->Nat->Option β):xE .nilSlice z f g=z:=_root_.id rfl
@[simp] theorem vw (a b c d:Nat)(z:Option β)(f g:Nat->Nat->Nat->Nat->Option β):xE (.slice a b c d) z f g=f a b c d:=_root_.id rfl
@[simp] theorem rM (a b c d:Nat)(z:Option β)(f g:Nat->Nat->Nat->Nat->Option β):xE (.sliceU a b c d) z f g=g a b c d:=_root_.id rfl
@[simp] theorem aza (fn:Fn)(a b:List d9)(f:Fn->List d9->List d9->Option β):PI (.func fn a b) f=f fn a b:=_root_.id rfl
@[simp] theorem jB (n:Nat)(k:Nat->Option β):Zd (n:Int) k=k n:=_root_.id rfl
@[simp] theorem lN (k:IntKind)(n:Int)(f:Nat->Option β):jL (.int k n) f=Zd n f:=_root_.id rfl
@[simp] theorem JU (k:IntKind):kEq k k=true:=by cases k<;>rfl
@[simp] theorem aAd (f:IB)(g:SB)(x y:OF):CZ f g x y ls env=Hz f g (x ls env) (y ls env):=_root_.id rfl
@[simp] theorem an3 (f:IB)(g:SB)(k:IntKind)(a b:Int):Hz f g (.int k a) (.int k b)=f k a b:=by show bi (kEq k k) (f k a b) none=_;rw [JU];rfl
@[simp] theorem an4 (f:IB)(g:SB)(a b:List UInt8):Hz f g (.str a) (.str b)=g a b:=_root_.id rfl
@[simp] theorem azb (x y:OF):IW x y ls env=Xj (x ls env) (y ls env):=_root_.id rfl
@[simp] theorem azc (a b:Int):Hu .i64 a b=some (.int .i64 (lI (a+b))):=_root_.id rfl
@[simp] theorem azd (a b:Int):Hw .i64 a b=some (.int .i64 (lI (a-b))):=_root_.id rfl
@[simp] theorem aze (a b:Int):IK .i64 a b=some (.int .i64 (lI (a*b))):=_root_.id rfl
@[simp] theorem aAe (k:IntKind)(a b:Int):EY k a b=some (.bool (decide (a=b))):=by show some (d9.bool (uJ a b))=_;rw [ni,show (a==b)=decide (a=b) from rfl]
@[simp] theorem aAf (k:IntKind)(a b:Int):Ze k a b=some (.bool (!decide (a=b))):=by show some (d9.bool (!uJ a b))=_;rw [ni,show (a==b)=decide (a=b) from rfl]
@[simp] theorem aAg (k:IntKind)(a b:Int):YK k a b=some (.bool (decide (a<b))):=by rw [← iO];rfl
@[simp] theorem aAh (k:IntKind)(a b:Int):YL k a b=some (.bool (decide (a<=b))):=by show some (d9.bool (!mQ b a))=_;rw [iO,show (!decide (b<a))=decide (a<=b) from by rw [acB];simp]
@[simp] theorem aAi (k:IntKind)(a b:Int):Zf k a b=some (.bool (decide (b<a))):=by rw [← iO];rfl
@[simp] theorem aAj (k:IntKind)(a b:Int):YM k a b=some (.bool (decide (b<=a))):=by show some (d9.bool (!mQ a b))=_;rw [iO,show (!decide (a<b))=decide (b<=a) from by rw [acB];simp]
theorem Z8 {n:Int}(h:-9223372036854775808<=n)(h':n<9223372036854775808):lI n=n:=by
 cases n with
 | ofNat m=>show bi (Nat.blt m 9223372036854775808) _ _=_;rw [show Nat.blt m 9223372036854775808=true from O6.mpr (by simp at h';omega)];rfl
 | negSucc m=>show bi (Nat.blt m 9223372036854775808) _ _=_;rw [show Nat.blt m 9223372036854775808=true from O6.mpr (by omega)];rfl
@[simp] theorem aAk (f:IU)(x y:OF):Gq f x y ls env=ob (f (x ls env) (y ls env)) λb=>some (.bool b):=_root_.id rfl
@[simp] theorem aAl (f:IU)(x y:OF):VA f x y ls env=ob (f (x ls env) (y ls env)) λb=>some (.bool (!b)):=_root_.id rfl
@[simp] theorem azf (x:OF):Fa x ls env=qU (x ls env) λb=>some (.bool (!b)):=_root_.id rfl
@[simp] theorem azg (x:OF):IX x ls env=xD (x ls env) λk n=>some (.int k (iW k (0-n))):=_root_.id rfl
@[simp] theorem an5 (k:IntKind)(x:OF):xG k x ls env=xD (x ls env) λ_ n=>some (.int k (iW k n)):=_root_.id rfl
@[simp] theorem alW (t:TypeId)(x:OF):qW t x ls env=some (.iface t (x ls env)):=_root_.id rfl
@[simp] theorem an6 (fn:Fn)(a b:List OF):Bb fn a b ls env=some (.func fn (evs a ls env) (evs b ls env)):=_root_.id rfl
@[simp] theorem adn (x:OF):iF x ls env=IV (x ls env):=_root_.id rfl
@[simp] theorem ajc (i o:Nat):IV (.ptr i o)=some (.ptr i o):=_root_.id rfl
@[simp] theorem alX (o:Nat)(x:OF):H8 o x ls env=pG (x ls env) λid off=>some (.ptr id (off+o)):=_root_.id rfl
@[simp] theorem an7 (off:Nat)(x:OF):xH off x ls env=EX (x ls env) λcs=>cs[off]?:=by show EX (x ls env) (λcs=>vJ off cs)=_;simp
@[simp] theorem azh (x:OF)(i:Nat):pExt x i ls env=PG (x ls env) λl=>l[i]?:=by show PG (x ls env) (λl=>vJ i l)=_;simp
@[simp] theorem azi (x:OF):HV x ls env=xE (x ls env) (some (.int .i64 0)) (λ_ _ n _=>some (.int .i64 n)) (λ_ _ n _=>some (.int .i64 n)):=_root_.id rfl
@[simp] theorem an8 (x:OF):xI x ls env=xg (x ls env) λs=>some (.int .i64 s.length):=by show xg (x ls env) (λs=>some (d9.int .i64 (.ofNat (len' s))))=_;simp
theorem au (len i:Nat)(k:Nat->Option β)(h:i<len):idx len (.int .i64 i) k=k i:=by show bi (Nat.blt i len) (k i) none=_;rw [show Nat.blt i len=true from O6.mpr h];rfl
@[simp] theorem gK (es:Nat)(x i:OF):jY es x i ls env=xE (x ls env) none (λid off len _=>idx len (i ls env) λk=>some (.ptr id (off+k*es)))
  (λid off len _=>idx len (i ls env) λk=>some (.ptr id (off+k*es))):=rfl
@[simp] theorem azj (cs:List d9):lay [] ls env cs=some cs:=_root_.id rfl
theorem aa5 (p:Nat×Nat×OF)(l:List (Nat×Nat×OF))(cs:List d9):lay (p::l) ls env cs =
  bi (Nat.beq (len' (p.2.2 ls env).cells) p.2.1) (bi (Nat.ble (Nat.add p.1 p.2.1) (len' cs)) (lay l ls env (pF p.1 (p.2.2 ls env).cells cs)) none) none:=rfl
@[simp] theorem alY (z:List d9)(ps:List (Nat×Nat×OF)):nX z ps ls env=ob (lay ps ls env z) λl=>some (.agg l):=_root_.id rfl
def ld1 (b:Option Z6)(off:Nat):Option d9:=aU b λrs n rows=>cell1 rs n rows off
def YR (b:Option Z6)(off k:Nat):Option d9:=aU b λrs n rows=>ob (qc rs n rows off k) λl=>some (.agg l)
def stB (b:Option Z6)(off:Nat)(vs:List d9):Option Z6:=aU b λrs n rows=>ob (bX rs n rows off vs) λrows'=>some (.cells rs n rows')
@[simp] theorem alZ (a:OF):Q0 a ls env m=pG (a ls env) λid off=>ld1 (m.get id) off:=_root_.id rfl
@[simp] theorem am0 (k:Nat)(a:OF):X9 k a ls env m=pG (a ls env) λid off=>YR (m.get id) off k:=_root_.id rfl
@[simp] theorem dG (rs n:Nat)(rows:T (List d9))(k:Nat->Nat->T (List d9)->Option β):aU (some (.cells rs n rows)) k=k rs n rows:=_root_.id rfl
theorem gM {rs n:Nat}{rows:T (List d9)}{i j:Nat}{row:List d9}(a:j<rs)(hi:i<n)(h:rows.get i=some row):cell1 rs n rows (i*rs+j)=row[j]?:=by
 unfold cell1;have b:Nat.div (i*rs+j) rs=i:=by show (i*rs+j) / rs=i;rw [adL,Nat.mul_add_div (by omega),amR a];rfl
 have c:Nat.mod (i*rs+j) rs=j:=by show (i*rs+j)%rs=j;rw [adL,aCR,adO a]
 rw [b,c,h,show Nat.blt i n=true from O6.mpr hi];exact ng _ _
theorem wo {rs n:Nat}{rows:T (List d9)}{i j k:Nat}{row:List d9}(c:j<rs)(hi:i<n)(h:rows.get i=some row)(f:row.length=rs)(g:j+k<=rs):
  qc rs n rows (i*rs+j) k=some ((row.drop j).take k):=by
 unfold qc;have d:Nat.div (i*rs+j) rs=i:=by show (i*rs+j) / rs=i;rw [adL,Nat.mul_add_div (by omega),amR c];rfl
 have e:Nat.mod (i*rs+j) rs=j:=by show (i*rs+j)%rs=j;rw [adL,aCR,adO c]
 rw [d,e,h,show Nat.blt i n=true from O6.mpr hi];simp only [aH,I9,eT];cases b:Nat.beq j 0 with
 | false=>simp only [bA];exact iw _ _ (by simp;omega)
 | true=>
  have b:=l7 b;subst b;simp only [aH];cases a:Nat.beq k rs with
  | true=>have a:=l7 a;subst a;simp [f.symm]
  | false=>simp only [bA,abR];exact iw _ _ (by omega)
end
theorem div_lt {a b:Nat}(h:a<b):Nat.div a b=0:=amR h
theorem mod_lt {a b:Nat}(h:a<b):Nat.mod a b=a:=adO h
@[simp] theorem ko (cs:List d9)(off:Nat):ld1 (some (j5 cs)) off=cs[off]?:=by
 show cell1 (len' cs) 1 (.nd .e cs .e) off=_;rw [K7];unfold cell1;by_cases h:off<cs.length;rw [div_lt h,mod_lt h];exact ng _ _;rw [show cs[off]?=none from by simp;omega];by_cases h0:cs.length=0;rw [h0,show Nat.div off 0=0 from Nat.div_zero off,show Nat.mod off 0=off from Nat.mod_zero off];show vJ off cs=none;rw [ng];simp;omega;have:1<=Nat.div off cs.length:=(aCo (by omega)).2 (by omega);rw [show Nat.blt (Nat.div off cs.length) 1=false from by
  cases hb:Nat.blt (Nat.div off cs.length) 1 with
  | false=>rfl
  | true=>have:=O6.mp hb;omega]
theorem bC {cs:List d9}{off k:Nat}(h:off+k<=cs.length)(h0:off<cs.length):YR (some (j5 cs)) off k=some (.agg ((cs.drop off).take k)):=by show ob (qc (len' cs) 1 (.nd .e cs .e) off k) (λl=>some (d9.agg l))=_;have:=wo (rs:=cs.length) (n:=1) (rows:=.nd .e cs .e) (i:=0) (j:=off) (k:=k) (row:=cs) h0 (by omega) rfl rfl h;rw [acL,W9] at this;rw [K7,this];rfl
theorem aB {cs vs:List d9}{off:Nat}(h:off+vs.length<=cs.length)(h0:off<cs.length):stB (some (j5 cs)) off vs=some (j5 (cs.take off++(vs++cs.drop (off+vs.length)))):=by
 show ob (bX (len' cs) 1 (.nd .e cs .e) off vs) (λa=>some (Z6.cells (len' cs) 1 a))=_;have b:Nat.ble (Nat.add off vs.length) cs.length=true:=qb h;have c:bX cs.length 1 (.nd .e cs .e) off vs=some (T.nd .e (pF off vs cs) .e):=by unfold bX;rw [div_lt h0,mod_lt h0,K7];show bi (Nat.ble (Nat.add off vs.length) cs.length) (some (T.nd .e (pF off vs cs) .e)) none=_;rw [b];rfl
 rw [K7,c,pK off vs cs (by omega)];show some (Z6.cells cs.length 1 _)=some (Z6.cells (len' _) 1 _);rw [K7];congr 2;simp;omega
def Mem.Ok (m:Mem):Prop:=T.Ok m.t m.nx
theorem Mem.Ok.new {m:Mem}(h:m.Ok)(b:Z6):(m.new b).Ok:=T.Ok.push h b
theorem Mem.Ok.set {m:Mem}(h:m.Ok){i:Nat}(hi:i<m.nx)(b:Z6):(m.set i b).Ok:=T.Ok.put h i b hi
theorem fq {m:Mem}(h:m.Ok)(b:Z6){i j:Nat}(a:j<m.nx)(hi:i=j):(m.set j b).get i=some b:=by rw [Mem.U6 h a,if_pos hi]
theorem jl {m:Mem}(h:m.Ok)(b:Z6){i j:Nat}(a:j<m.nx)(hi:i≠j):(m.set j b).get i=m.get i:=by rw [Mem.U6 h a,if_neg hi]
theorem bW {β:Type}{m:Mem}{id off:Nat}{vs:List d9}{k:Mem->Option β}(c:m.lim<=id)(a:I7 vs=true):storeAt m id off vs k=ob (stB (m.get id) off vs) λb=>k (m.set id b):=by
 unfold storeAt;rw [show Nat.blt id m.lim=false from by
  cases hb:Nat.blt id m.lim with
  | false=>rfl
  | true=>have:=O6.mp hb;omega,a]
 simp only [bA,aH];unfold stB;match m.get id with
 | some (.cells rs n rows)=>show ob (bX rs n rows off vs) _=ob (ob (bX rs n rows off vs) _) _;cases bX rs n rows off vs<;>rfl
 | some .void | some .dead | some (.map _) | some (.iter ..) | some (.tail _) | some (.loop ..) | some .deferred | none=>rfl
theorem XT (b:Nat)(a x:OF)(cf:H7)(ls:List d9)(env:T d9)(m:Mem):iH b a x cf ls env m=pG (a ls env) λid off=>
  bi (Nat.beq (x ls env).cells.length b) (storeAt m id off (x ls env).cells λm'=>some [⟨.undef,m'⟩]) none:=by
 show pG (a ls env) (λid off=>bi (Nat.beq (len' (x ls env).cells) b) (storeAt m id off (x ls env).cells λm'=>one .undef m') none)=_;simp only [K7];rfl
@[simp] theorem ajd:I7 []=true:=_root_.id rfl
@[simp] theorem agx (v:d9)(l:List d9):I7 (v::l)=bi (A8 v) (I7 l) false:=_root_.id rfl
section
variable (cf:H7)(ls:List d9)(env:T d9)(m:Mem)(d:d9->T d9->T d9)(k:RC)
@[simp] theorem an9:bK cf ls env m=some [⟨env,m,none,[]⟩]:=_root_.id rfl
@[simp] theorem aAm (f:PF):vM f d k cf ls env m=ob (f ls env) λv=>k cf (v::ls) (d v env) m:=_root_.id rfl
@[simp] theorem azk (f:PF):K5 f k cf ls env m=ob (f ls env) λv=>k cf (v::ls) env m:=_root_.id rfl
@[simp] theorem aAn (f:RF):rcR f d k cf ls env m=ob (f ls env m) λv=>k cf (v::ls) (d v env) m:=_root_.id rfl
@[simp] theorem azl (f:RF):bL f k cf ls env m=ob (f ls env m) λv=>k cf (v::ls) env m:=_root_.id rfl
@[simp] theorem am1:Lg m none=m:=_root_.id rfl
@[simp] theorem am2 (b:Z6):Lg m (some b)=m.new b:=_root_.id rfl
@[simp] theorem aAo (f:LF):KZ f d k cf ls env m=ob (f ls env m.nx) λr=>k cf (r.1::ls) (d r.1 env) (Lg m r.2):=_root_.id rfl
@[simp] theorem azm (f:LF):HY f k cf ls env m=ob (f ls env m.nx) λr=>k cf (r.1::ls) env (Lg m r.2):=_root_.id rfl
@[simp] theorem aAp (f:EF):rcE f d k cf ls env m=bnd (f cf ls env m) λr=>jf r.v (λx=>some [⟨env,r.m,some x,[]⟩]) (k cf (r.v::ls) (d r.v env) r.m):=_root_.id rfl
@[simp] theorem azn (f:EF):nO f k cf ls env m=bnd (f cf ls env m) λr=>jf r.v (λx=>some [⟨env,r.m,some x,[]⟩]) (k cf (r.v::ls) env r.m):=_root_.id rfl
@[simp] theorem am3 (z:List d9)(i:Nat):qd z ls env i=some (.ptr i 0,some (j5 z)):=_root_.id rfl
@[simp] theorem azo (x:OF)(i:Nat):qX x ls env i=some (.ptr i 0,some (j5 (x ls env).cells)):=_root_.id rfl
@[simp] theorem am4 (i:Nat):tY ls env i=some (.map i,some (.map [])):=_root_.id rfl
@[simp] theorem am5 (l:List d9):(d9.agg l).cells=l:=_root_.id rfl
@[simp] theorem am6 (k:IntKind)(n:Int):(d9.int k n).cells=[.int k n]:=_root_.id rfl
@[simp] theorem am7 (s:List UInt8):(d9.str s).cells=[.str s]:=_root_.id rfl
@[simp] theorem am8 (i:Nat):(d9.map i).cells=[.map i]:=_root_.id rfl
@[simp] theorem cells_func (f:Fn)(a b:List d9):(d9.func f a b).cells=[.func f a b]:=_root_.id rfl
@[simp] theorem agy (a b c d:Nat):(d9.slice a b c d).cells=[.slice a b c d]:=_root_.id rfl
@[simp] theorem ado (a b c d:Nat):(d9.sliceU a b c d).cells=[.sliceU a b c d]:=_root_.id rfl
@[simp] theorem aa7:d9.nilSlice.cells=[.nilSlice]:=_root_.id rfl
@[simp] theorem ana (f:FuncId)(as:List OF):jy f as cf ls env m=cf (.func f) (evs as ls env) m:=_root_.id rfl
@[simp] theorem am9 (f:OF)(as:List OF):qZ f as cf ls env m=Zk cf m (evs as ls env) (f ls env):=_root_.id rfl
@[simp] theorem aje (as:List d9)(f:FuncId)(a b:List d9):Zk cf m as (.func (.func f) a b)=cf (.func f) (a++(as++b)) m:=by show cf (.func f) (cZ a (cZ as b)) m=_;simp
end
@[simp] theorem anb (b:Bool):sw true (.bool b)=b:=by cases b<;>rfl
@[simp] theorem ama (b:Bool):sw false (.bool b)=!b:=by cases b<;>rfl
section
variable (w:Bool)(x:OF)(ls:List d9)(env:T d9)(m:Mem)
@[simp] theorem aEf (f:PF):gP x w f ls env=bi (sw w (x ls env)) (f ls env) (some .undef):=_root_.id rfl
@[simp] theorem aAq (f:RF):jW x w f ls env m=bi (sw w (x ls env)) (f ls env m) (some .undef):=_root_.id rfl
@[simp] theorem aAr (f:LF)(i:Nat):gLk x w f ls env i=bi (sw w (x ls env)) (f ls env i) (some (.undef,none)):=_root_.id rfl
@[simp] theorem aEg (f:EF)(cf:H7):gE x w f cf ls env m=bi (sw w (x ls env)) (f cf ls env m) (some [⟨.undef,m⟩]):=_root_.id rfl
end
@[simp] theorem T.anc {α:Type}(x:α)(t:T α)(i:Nat):T.rep x 0 t i=t:=_root_.id rfl
attribute [simp] T.Jf T.bQ T.gV
section
variable (cf:H7)(fu:Nat)(ir:Option Nat)(env:T d9)(m:Mem)(k:List Mk)
@[simp] theorem azp (x:bP):uf x env m k=some [⟨x,env,m,k,none⟩]:=_root_.id rfl
@[simp] theorem amb:kW cf fu ir env m k=some [⟨.normal,env,m,k,none⟩]:=_root_.id rfl
@[simp] theorem ane (r:RC):bM r cf fu ir env m k=bnd (r cf [] env m) (om k):=_root_.id rfl
@[simp] theorem amc:om k ⟨env,m,none,[]⟩=some [⟨.normal,env,m,k,none⟩]:=_root_.id rfl
@[simp] theorem amd (n:Nat)(r:DC):mX n r cf fu ir env m k=bnd (r cf m.nx [] env (reserve n m) [reserve n m]) (om k):=_root_.id rfl
def adp (b:SC)(cf:H7)(fu:Nat)(ir:Option Nat)(o:Out):Option (List Out):=bP.rec (b cf fu ir o.env o.m o.marks) (λ_=>some [o]) (some [o]) o.x
@[simp] theorem anf (a b:SC):dx a b cf fu ir env m k=bnd (a cf fu ir env m k) (adp b cf fu ir):=_root_.id rfl
@[simp] theorem agz (b:SC)(p:Option d9):adp b cf fu ir ⟨.normal,env,m,k,p⟩=b cf fu ir env m k:=_root_.id rfl
@[simp] theorem ame (b:SC)(i:Nat)(p:Option d9):adp b cf fu ir ⟨.exit i,env,m,k,p⟩=some [⟨.exit i,env,m,k,p⟩]:=_root_.id rfl
@[simp] theorem ang (b:SC)(p:Option d9):adp b cf fu ir ⟨.ret,env,m,k,p⟩=some [⟨.ret,env,m,k,p⟩]:=_root_.id rfl
@[simp] theorem amf (c:OF)(a b:SC):oo c a b cf fu ir env m k=qU (c [] env) λt=>bi t (a cf fu ir env m k) (b cf fu ir env m k):=_root_.id rfl
def adq (id:Nat)(o:Out):Option (List Out):=bP.rec (some [o]) (λid'=>bi (Nat.beq id id') (uf .normal o.env o.m o.marks) (some [o])) (some [o]) o.x
@[simp] theorem ajf (id:Nat)(a:SC):kI id a cf fu ir env m k=bnd (a cf fu ir env m k) (adq id):=_root_.id rfl
@[simp] theorem agA (id:Nat)(p:Option d9):adq id ⟨.normal,env,m,k,p⟩=some [⟨.normal,env,m,k,p⟩]:=_root_.id rfl
@[simp] theorem anh (id:Nat)(p:Option d9):adq id ⟨.ret,env,m,k,p⟩=some [⟨.ret,env,m,k,p⟩]:=_root_.id rfl
@[simp] theorem amg (id i:Nat)(p:Option d9):adq id ⟨.exit i,env,m,k,p⟩=bi (Nat.beq id i) (some [⟨.normal,env,m,k,none⟩]) (some [⟨.exit i,env,m,k,p⟩]):=_root_.id rfl
@[simp] theorem amh (a:SC):qj a cf fu ir env m k=J5 (λenv m k=>a cf fu ir env m k) fu env m k:=_root_.id rfl
def QY (f:T d9->Mem->List Mk->Option (List Out))(o:Out):Option (List Out):=bP.rec (f o.env o.m o.marks) (λ_=>some [o]) (some [o]) o.x
theorem l9 (a:T d9->Mem->List Mk->Option (List Out))(n:Nat):J5 a (n+1) env m k=bnd (a env m k) (QY (J5 a n)):=rfl
@[simp] theorem adr (f:T d9->Mem->List Mk->Option (List Out))(p:Option d9):QY f ⟨.normal,env,m,k,p⟩=f env m k:=_root_.id rfl
@[simp] theorem ajg (f:T d9->Mem->List Mk->Option (List Out))(i:Nat)(p:Option d9):QY f ⟨.exit i,env,m,k,p⟩=some [⟨.exit i,env,m,k,p⟩]:=_root_.id rfl
@[simp] theorem ami (f:T d9->Mem->List Mk->Option (List Out))(p:Option d9):QY f ⟨.ret,env,m,k,p⟩=some [⟨.ret,env,m,k,p⟩]:=_root_.id rfl
@[simp] theorem amj (id:Nat):ru id cf fu ir env m k=some [⟨.exit id,env,m,k,none⟩]:=_root_.id rfl
@[simp] theorem ani:nR cf fu ir env m k=some [⟨.ret,env,m,k,none⟩]:=_root_.id rfl
end
section
variable (cf:H7)(b:Nat)(ls:List d9)(env:T d9)(m:Mem)(gs:List Mem)(d:d9->T d9->T d9)(k:DC)(c:Nat)
attribute [simp] Ot Ou
@[simp] theorem anj:sP cf b ls env m gs=some [⟨env,m,none,[]⟩]:=_root_.id rfl
@[simp] theorem aAs (f:PF):lJ f d k cf b ls env m gs=ob (f ls env) λv=>k cf b (v::ls) (d v env) m gs:=_root_.id rfl
@[simp] theorem aAt (f:RF):xq f c d k cf b ls env m gs=ob (f ls env (hd m gs)) λv=>bi (stable f ls env v c (tl gs)) (k cf b (v::ls) (d v env) m gs) none:=_root_.id rfl
@[simp] theorem aAu (f:LF):dcL f c d k cf b ls env m gs=ob (f ls env (b+c)) λr=>bi (isVoid (m.get (b+c))) (bi (gU (b+c) gs) (k cf b (r.1::ls) (d r.1 env) (Td m (b+c) r.2) gs) none) none:=_root_.id rfl
@[simp] theorem aAv (f:EF)(a:GF):PX f a d k cf b ls env m gs=Tc (f cf ls env m) λr=>jf r.v (λx=>bi (a (.undef::ls) (d .undef env)) (some [⟨env,r.m,some x,[]⟩]) none) (k cf b (r.v::ls) (d r.v env) r.m (r.m::gs)):=_root_.id rfl
@[simp] theorem ank:Bg ls env=true:=_root_.id rfl
@[simp] theorem aAw:Ik ls env=false:=_root_.id rfl
@[simp] theorem ads (g:Mem):hd m (g::gs)=g:=_root_.id rfl
@[simp] theorem azq (g:Mem):tl (g::gs)=gs:=_root_.id rfl
@[simp] theorem XU (i:Nat)(x:Z6):Td m i (some x)=m.set i x:=_root_.id rfl
@[simp] theorem agB:isVoid (some .void)=true:=_root_.id rfl
@[simp] theorem agC (i:Nat):gU i []=true:=_root_.id rfl
@[simp] theorem adt (i:Nat)(g:Mem):gU i (g::gs)=bi (isVoid (g.get i)) (gU i gs) false:=_root_.id rfl
@[simp] theorem agD (f:RF)(v:d9):stable f ls env v 0 gs=true:=_root_.id rfl
@[simp] theorem agE (f:RF)(v:d9)(n:Nat)(g:Mem):stable f ls env v (n+1) (g::gs)=bi (Option.rec false (λu=>bS 100 u v) (f ls env g)) (stable f ls env v n gs) false:=_root_.id rfl
end
@[simp] theorem aa8 (env:T d9):gJ [] [] env=some env:=_root_.id rfl
@[simp] theorem YS (j:Option Nat)(a:List (Option Nat))(v:d9)(vs:List d9)(env:T d9):gJ (j::a) (v::vs) env=gJ a vs (fB j v env):=_root_.id rfl
@[simp] theorem amk (a:mY)(rs:List qQ)(env:T d9)(m:Mem):leave a rs ⟨.ret,env,m,[],none⟩=ob (results rs env m) λl=>some [⟨result l,m⟩]:=_root_.id rfl
@[simp] theorem adu (a:mY)(rs:List qQ)(env:T d9)(m:Mem):leave a rs ⟨.normal,env,m,[],none⟩=ob (results rs env m) λl=>some [⟨result l,m⟩]:=_root_.id rfl
@[simp] theorem agF (env:T d9)(m:Mem):results [] env m=some []:=_root_.id rfl
@[simp] theorem results_tmp (j:Nat)(rs:List qQ)(env:T d9)(m:Mem):results (.tmp j::rs) env m=ob (env.get j) λv=>ob (results rs env m) λl=>some (v::l):=_root_.id rfl
@[simp] theorem ajh:result []=.tuple []:=_root_.id rfl
@[simp] theorem aji (v:d9):result [v]=v:=_root_.id rfl
@[simp] theorem ajj (v x:d9)(l:List d9):result (v::x::l)=.tuple (v::x::l):=_root_.id rfl
structure Ext (m m':Mem):Prop where
 ok:T.Ok m'.t m'.nx
 nx:m.nx<=m'.nx
 lim:m'.lim=m.lim
 old:∀i,i<m.nx->m'.get i=m.get i
theorem Ext.refl {m:Mem}(h:T.Ok m.t m.nx):Ext m m:=⟨h,aA _,rfl,λ_ _=>rfl⟩
theorem Ext.trans {a b c:Mem}(h:Ext a b)(k:Ext b c):Ext a c:=
 ⟨k.ok,nM h.nx k.nx,k.lim.trans h.lim,λi d=>(k.old i (aP d h.nx)).trans (h.old i d)⟩
theorem Ext.new {a m:Mem}(h:Ext a m)(b:Z6):Ext a (m.new b):=
 ⟨h.ok.push b,aCy h.nx,h.lim,λi c=>by rw [Mem.P5 h.ok,if_neg (by have:=h.nx;omega)];exact h.old i c⟩
theorem Ext.set {a m:Mem}(h:Ext a m){i:Nat}(hi:i<m.nx)(d:a.nx<=i)(b:Z6):Ext a (m.set i b):=
 ⟨h.ok.put _ _ hi,h.nx,h.lim,λj c=>by rw [Mem.U6 h.ok hi,if_neg (by omega)];exact h.old j c⟩
theorem Ext.get {a m:Mem}(h:Ext a m){i:Nat}{b:Z6}(d:T.Ok a.t a.nx)(c:a.get i=some b):m.get i=some b:=
 (h.old i (Mem.Q6 d c)).trans c
def Y9 (m:Mem)(v:d9)(xs:List Int):Prop:=
 (v=.nilSlice∧xs=[])∨∃p:Nat×Nat,((∃c,v=.slice p.1 p.2 xs.length c)∨∃es,v=.sliceU p.1 p.2 xs.length es)∧p.1<m.nx∧(xs=[]∨∃n rows,m.get p.1=some (.cells 1 n rows)∧p.2+xs.length<=n∧∀i (h:i<xs.length),rows.get (p.2+i)=some [.int .i64 xs[i]])
theorem Y9.ext {m b:Mem}(h:Ext m b){v:d9}{xs:List Int}(a:Y9 m v xs):Y9 b v xs:=by rcases a with a | ⟨id,h1,h2,h3⟩;exact .inl a;refine .inr ⟨id,h1,aP h2 h.nx,?_⟩;rcases h3 with h3 | ⟨n,rows,h4,h5,h6⟩;exact .inl h3;exact .inr ⟨n,rows,(h.old id.1 h2).trans h4,h5,h6⟩
theorem VP {n i:Nat}{rows:T (List d9)}{v:d9}(h:i<n)(a:rows.get i=some [v]):ld1 (some (.cells 1 n rows)) i=some v:=by have:=gM (rs:=1) (n:=n) (rows:=rows) (i:=i) (j:=0) (by omega) h a;rw [adG] at this;exact this
theorem Z7 {i:Nat}(h:i<4611686018427387904):lI ((i:Int)+1)=((i+1:Nat):Int):=by rw [Z8 (by omega) (by omega)];rfl
theorem Y9.at {m:Mem}{v:d9}{xs:List Int}(h:Y9 m v xs){i:Nat}(hi:i<xs.length):
  ∃q:Nat×Nat,xE v none (λid off len _=>idx len (.int .i64 i) λk=>some (d9.ptr id (off+k))) (λid off len _=>idx len (.int .i64 i) λk=>some (d9.ptr id (off+k)))=some (.ptr q.1 q.2)∧q.1<m.nx∧ld1 (m.get q.1) q.2=some (.int .i64 xs[i]):=by
 rcases h with⟨_,rfl⟩ | ⟨id,h1,h2,h3⟩;simp at hi;rcases h3 with rfl | ⟨n,rows,h4,h5,h6⟩;simp at hi;refine⟨(id.1,id.2+i),?_,h2,by rw [h4];exact VP (by omega) (h6 i hi)⟩;rcases h1 with⟨c,rfl⟩ | ⟨c,rfl⟩;simp only [vw];rw [au _ _ _ hi];simp only [rM];rw [au _ _ _ hi]
theorem Y9.cells {m:Mem}{v:d9}{xs:List Int}(h:Y9 m v xs):v.cells=[v]:=by rcases h with⟨rfl,rfl⟩ | ⟨id,⟨c,rfl⟩ | ⟨c,rfl⟩,_⟩<;>rfl
theorem Y9.aY {m:Mem}{v:d9}{xs:List Int}(h:Y9 m v xs){β:Type}(p:d9->β)(q:β):jf v p q=q:=by rcases h with⟨rfl,rfl⟩ | ⟨id,⟨c,rfl⟩ | ⟨c,rfl⟩,_⟩<;>rfl
theorem Y9.A8 {m:Mem}{v:d9}{xs:List Int}(h:Y9 m v xs):Go.AM.A8 v=true:=by rcases h with⟨rfl,rfl⟩ | ⟨id,⟨c,rfl⟩ | ⟨c,rfl⟩,_⟩<;>rfl
theorem Y9.len {m:Mem}{v:d9}{xs:List Int}(h:Y9 m v xs):xE v (some (d9.int .i64 0)) (λ_ _ n _=>some (.int .i64 n)) (λ_ _ n _=>some (.int .i64 n))=some (.int .i64 xs.length):=by rcases h with⟨rfl,rfl⟩ | ⟨id,⟨c,rfl⟩ | ⟨c,rfl⟩,_⟩<;>rfl
theorem Y9.lenOf {m:Mem}{v:d9}{xs:List Int}(h:Y9 m v xs):Go.AM.lenOf v=some xs.length:=by rcases h with⟨rfl,rfl⟩ | ⟨id,⟨c,rfl⟩ | ⟨c,rfl⟩,_⟩<;>rfl
def ints (xs:List Int):List d9:=xs.map (d9.int .i64)
theorem LK {n off:Nat}{rows:T (List d9)}{xs:List Int}(h:∀i (h:i<xs.length),rows.get (off+i)=some [.int .i64 xs[i]])(c:off+xs.length<=n):
  ∀(j i:Nat),i+j=xs.length->J7 1 n rows j (off+i)=some (ints (xs.drop i)):=by
 intro j;induction j with
 | zero=>intro i b;rw [zu (by omega)];rfl
 | succ j ih=>
  intro i b;have a:i<xs.length:=by omega
  show ob (cell1 1 n rows (off+i)) (λv=>ob (J7 1 n rows j (off+i+1)) λl=>some (v::l))=_;have e:cell1 1 n rows (off+i)=some (.int .i64 xs[i]):=by
   have:=gM (rs:=1) (n:=n) (rows:=rows) (i:=off+i) (j:=0) (by omega) (by omega) (h i a)
   rwa [adG] at this
  rw [e,show off+i+1=off+(i+1) from by omega,ih (i+1) (by omega),M0 a];rfl
theorem Y9.read {m:Mem}{v:d9}{xs:List Int}(h:Y9 m v xs):aj m 1 xs.length v=some (ints xs):=by
 rcases h with⟨rfl,rfl⟩ | ⟨id,h1,h2,h3⟩;rfl;rcases h3 with rfl | ⟨n,a,h4,h5,h6⟩;rcases h1 with⟨c,rfl⟩ | ⟨c,rfl⟩<;>rfl
 have b:Y0 m id.1 id.2 (Nat.mul xs.length 1)=some (ints xs):=by
  have e:Nat.mul xs.length 1=xs.length:=adG _;rw [e];cases hx:xs.length with
  | zero=>rw [abm.1 hx];rfl
  | succ k=>show aU (m.get id.1) (λf d a=>J7 f d a (k+1) id.2)=_;have:=LK h6 h5 (k+1) 0 (by omega);rw [h4,dG];exact this
 rcases h1 with⟨c,rfl⟩ | ⟨c,rfl⟩<;>exact b
theorem GU:∀(xs:List Int),rowsOf 1 xs.length (ints xs)=some (xs.map λx=>[d9.int .i64 x])
 | []=>rfl
 | x::xs=>by show ob (takeN 1 (ints (x::xs))) (λr=>ob (rowsOf 1 xs.length (gQ 1 (ints (x::xs)))) λrest=>some (r::rest))=_;have e:gQ 1 (ints (x::xs))=ints xs:=rfl;rw [e,GU xs];rfl
theorem TS {m:Mem}(a:T.Ok m.t m.nx)(xs:List Int):∃m',grown m 1 xs.length (ints xs)=some [⟨.sliceU m.nx 0 xs.length 1,m'⟩]∧Ext m m'∧Y9 m' (.sliceU m.nx 0 xs.length 1) xs:=by refine⟨m.new (.cells 1 xs.length (T.ofList (xs.map λx=>[d9.int .i64 x]))),?_,(Ext.refl a).new _,.inr ⟨(m.nx,0),.inr ⟨1,rfl⟩,by simp,.inr ⟨xs.length,_,by rw [Mem.P5 a,if_pos rfl],by simp,λi b=>by rw [W9,T.bN];simp [b]⟩⟩⟩;show ob (rowsOf 1 xs.length (ints xs)) _=_;rw [GU];rfl
namespace T
variable {α:Type}
theorem adv {t:T α}{n:Nat}(h:Ok t n):∀i (x y:α),i<=n->(t.put i x).put i y=t.put i y:=by
 induction h with
 | e=>intro i x y b;obtain rfl:i=0:=by omega
      rfl
 | @nd l r z n hl hr ihl ihr=>
  intro i x y b;cases i with
  | zero=>rfl
  | succ i=>rw [bQ,bQ];split;rename_i a;rw [bQ,if_pos a,ihl _ _ _ (by omega)];rename_i a;rw [bQ,if_neg a,ihr _ _ _ (by omega)]
theorem put_comm {t:T α}{n:Nat}(h:Ok t n):∀i (x y:α),i<n->(t.put n x).put i y=(t.put i y).put n x:=by
 induction h with
 | e=>intro i x y a;omega
 | @nd l r z n hl hr ihl ihr=>
  intro i x y a;cases i with
  | zero=>rw [bQ,Qe,bQ];split<;>rfl
  | succ i=>
   rw [bQ (i:=n),bQ (i:=i)];by_cases hn:n%2=0;rw [if_pos hn,bQ];by_cases h0:i%2=0;rw [if_pos h0,if_pos h0,bQ,if_pos hn];have e:(n+1) / 2=n / 2:=by omega
   rw [e] at hl ihl;have:=ihl (i / 2) x y (by omega);rw [this];rw [if_neg h0,if_neg h0,bQ,if_pos hn];rw [if_neg hn,bQ];by_cases h0:i%2=0;rw [if_pos h0,if_pos h0,bQ,if_neg hn];rw [if_neg h0,if_neg h0,bQ,if_neg hn];have:=ihr (i / 2) x y (by omega);rw [this]
end T
theorem DZ {α:Type}{p:List α->Prop}(h0:p [])(hs:∀l b,p l->p (l ++ [b])):∀l,p l:=by
 intro l;have:p l.reverse.reverse:=by
  generalize l.reverse=r;induction r with
  | nil=>exact h0
  | cons x r ih=>rw [List.reverse_cons];exact hs _ _ ih
 rwa [List.reverse_reverse] at this
def ext (m:Mem)(l:List Z6):Mem:=l.foldl Mem.new m
theorem o9 (m:Mem)(b:Z6):m.new b=ext m [b]:=rfl
theorem w9 (m:Mem)(l a:List Z6):ext (ext m l) a=ext m (l++a):=by simp [ext]
theorem ext_nil (m:Mem):ext m []=m:=rfl
theorem jC (m:Mem)(l:List Z6)(b:Z6):ext m (l ++ [b])=(ext m l).new b:=by simp [ext]
@[simp] theorem QZ (m:Mem)(l:List Z6):(ext m l).nx=m.nx+l.length:=by
 induction l using DZ with
 | h0=>rfl
 | hs l b ih=>rw [jC,Mem.Qi,ih];simp;omega
@[simp] theorem Ap (m:Mem)(l:List Z6):(ext m l).lim=m.lim:=by
 induction l using DZ with
 | h0=>rfl
 | hs l b ih=>rw [jC,Mem.acW,ih]
theorem I5 {m:Mem}(a:m.Ok)(l:List Z6):(ext m l).Ok:=by
 induction l using DZ with
 | h0=>exact a
 | hs l b ih=>rw [jC];exact ih.new b
theorem ext_get {m:Mem}(a:m.Ok)(l:List Z6)(i:Nat):(ext m l).get i=if i<m.nx then m.get i else l[i-m.nx]?:=by
 induction l using DZ with
 | h0=>
  rw [ext_nil];split;rfl;cases h:m.get i with
  | none=>simp
  | some b=>have:=Mem.Q6 a h;omega
 | hs l b ih=>rw [jC,Mem.P5 (I5 a l),ih,QZ];by_cases h1:i<m.nx;rw [if_neg (by omega),if_pos h1,if_pos h1];rw [if_neg h1,if_neg h1];by_cases h2:i=m.nx+l.length;rw [if_pos h2,acM (by omega),show i-m.nx-l.length=0 from by omega];rfl;rw [if_neg h2];by_cases h3:i-m.nx<l.length;rw [acv h3];rw [ajv (by omega),ajv (by simp;omega)]
theorem l5 {m:Mem}(a:m.Ok)(l:List Z6)(c:Nat):(ext m l).get (m.nx+c)=l[c]?:=by rw [ext_get a,if_neg (by omega),show m.nx+c-m.nx=c from by omega]
theorem j6 {m:Mem}(a:m.Ok)(l:List Z6):(ext m l).get m.nx=l[0]?:=l5 a l 0
theorem H6 {m:Mem}(a:m.Ok)(l:List Z6){i:Nat}(h:i<m.nx):(ext m l).get i=m.get i:=by rw [ext_get a,if_pos h]
theorem r9 {m:Mem}(a:m.Ok)(l:List Z6):Ext m (ext m l):=⟨I5 a l,by simp,by simp,λi b=>H6 a l b⟩
theorem Mem.VQ {m:Mem}(c:m.Ok)(a b:Z6):(m.new a).set m.nx b=m.new b:=by show (⟨(m.t.put m.nx a).put m.nx b,_,_⟩:Mem)=_;rw [T.adv c _ _ _ (aA _)];rfl
theorem Mem.Ra {m:Mem}(c:m.Ok)(a b:Z6){i:Nat}(h:i<m.nx):(m.new a).set i b=(m.set i b).new a:=by show (⟨(m.t.put m.nx a).put i b,_,_⟩:Mem)=⟨(m.t.put i b).put m.nx a,_,_⟩;rw [T.put_comm c _ _ _ h];rfl
theorem o8 {m:Mem}(d:m.Ok)(l:List Z6)(c:Nat)(b:Z6)(h:c<l.length):(ext m l).set (m.nx+c) b=ext m (l.set c b):=by
 induction l using DZ with
 | h0=>simp at h
 | hs l a ih=>
  rw [jC];by_cases h1:c<l.length;rw [Mem.Ra (I5 d l) _ _ (by rw [QZ];omega),ih h1,List.set_append_left _ _ h1,jC];have:c=l.length:=by simp at h;omega
  subst this;have e:m.nx+l.length=(ext m l).nx:=by simp
  rw [e,Mem.VQ (I5 d l),amG _ _ (aA _)];simp [jC]
theorem o7 {m:Mem}(a:m.Ok)(l:List Z6)(b:Z6)(h:0<l.length):(ext m l).set m.nx b=ext m (l.set 0 b):=o8 a l 0 b h
end
end Go.AM
namespace Go.AM
open Go
theorem ah {α:Type}(a b:Nat)(x y:α):bi (Nat.beq a b) x y=if a=b then x else y:=xZ a b x y
theorem MI {α:Type}(a b:Nat)(x y:α):bi (Nat.ble a b) x y=if a<=b then x else y:=by
 cases h:Nat.ble a b with
 | true=>rw [if_pos (LA h)];rfl
 | false=>rw [if_neg (λc=>by rw [qb c] at h;cases h)];rfl
theorem XV {α:Type}(a b:Nat)(x y:α):bi (Nat.blt a b) x y=if a<b then x else y:=MI (a+1) b x y
theorem fJ (ls:List d9)(env:T d9)(p:Nat×Nat×OF)(l:List (Nat×Nat×OF))(cs:List d9):lay (p::l) ls env cs =
  if (p.2.2 ls env).cells.length=p.2.1 then if p.1+p.2.1<=cs.length then lay l ls env (cs.take p.1++((p.2.2 ls env).cells++cs.drop (p.1+(p.2.2 ls env).cells.length))) else none else none:=by
 rw [aa5,ah,K7,K7];split;rename_i h;show bi (Nat.ble (p.1+p.2.1) cs.length) _ _=_;rw [MI];split;rename_i a;rw [pK _ _ _ (by omega)];rfl;rfl
theorem aC (b:Nat)(a x:OF)(cf:H7)(ls:List d9)(env:T d9)(m:Mem):iH b a x cf ls env m=pG (a ls env) λid off=>
  if (x ls env).cells.length=b then storeAt m id off (x ls env).cells λm'=>some [⟨.undef,m'⟩] else none:=by
 rw [XT];simp only [ah]
theorem FH {β:Type}{m:Mem}(a:m.Ok)(d:m.lim<=m.nx)(l:List Z6)(c off:Nat)(vs:List d9)(k:Mem->Option β):
  storeAt (ext m l) (m.nx+c) off vs k=bi (I7 vs) (ob (stB l[c]? off vs) λb=>k (ext m (l.set c b))) none:=by
 cases h1:I7 vs with
 | false=>unfold storeAt;rw [h1];cases Nat.blt (m.nx+c) (ext m l).lim<;>rfl
 | true=>rw [bW (by rw [Ap];omega) h1,l5 a,aH];by_cases hc:c<l.length;congr 1;funext b;rw [o8 a _ _ _ hc];rw [ajv (by omega)];rfl
theorem zC {β:Type}{m:Mem}(c:m.Ok)(a:m.lim<=m.nx)(l:List Z6)(off:Nat)(vs:List d9)(k:Mem->Option β):
  storeAt (ext m l) m.nx off vs k=bi (I7 vs) (ob (stB l[0]? off vs) λb=>k (ext m (l.set 0 b))) none:=FH c a l 0 off vs k
@[simp] theorem adw (j:Nat)(k:Nat)(rs:List qQ)(env:T d9)(m:Mem):results (.cell j (some k)::rs) env m=ob (ob (env.get j) λp=>pG p λid off=>YR (m.get id) off k) λv=>ob (results rs env m) λl=>some (v::l):=id rfl
@[simp] theorem acD (j:Nat)(rs:List qQ)(env:T d9)(m:Mem):results (.cell j none::rs) env m=ob (ob (env.get j) λp=>pG p λid off=>ld1 (m.get id) off) λv=>ob (results rs env m) λl=>some (v::l):=id rfl
end Go.AM
namespace Go.AM
open Go
section
variable {α β:Type}
@[congr] theorem anl {b b':Bool}{x a y y':α}(hb:b=b')(c:b'=true->x=a)(d:b'=false->y=y'):bi b x y=bi b' a y':=by
 subst hb;cases b with
 | true=>exact c rfl
 | false=>exact d rfl
@[simp] theorem azr (b:Bool)(x:α):bi b x x=x:=by cases b<;>rfl
theorem bR (b:Bool)(x y:α)(k:α->Option β):ob (bi b (some x) (some y)) k=k (bi b x y):=by cases b<;>rfl
theorem cu (b:Bool)(x y:α)(k:α->Option (List β)):bnd (bi b (some [x]) (some [y])) k=k (bi b x y):=by cases b<;>rfl
theorem aX (b:Bool)(x y:α)(k:α->Option β):Tc (bi b (some [x]) (some [y])) k=k (bi b x y):=by cases b<;>rfl
end
@[simp] theorem agG (b c:Bool):bi b (d9.bool c) (d9.bool false)=.bool (b&&c):=by cases b<;>rfl
theorem aa9 (b:Bool)(v w:d9)(m:Mem):bi b (⟨v,m⟩:VM) ⟨w,m⟩=⟨bi b v w,m⟩:=by cases b<;>rfl
@[simp] theorem azs {β:Type}(b:Bool)(v w:d9)(p:d9->β)(q:β):jf (bi b v w) p q=bi b (jf v p q) (jf w p q):=by cases b<;>rfl
end Go.AM
namespace Go.AM
open Go
section
variable {α:Type}(a b c:Bool)(x y z:α)
end
end Go.AM
namespace Go.AM
open Go
@[simp] theorem aEh (b:Bool)(f a:T d9)(m d:Mem)(p e:Option d9)(k c:List Mk):bi b (⟨f,m,p,k⟩:EM) ⟨a,d,e,c⟩=⟨bi b f a,bi b m d,bi b p e,bi b k c⟩:=by cases b<;>rfl
@[simp] theorem aEi (b:Bool)(l a r c:T d9)(x d:d9):bi b (T.nd l x r) (T.nd a d c)=.nd (bi b l a) (bi b x d) (bi b r c):=by cases b<;>rfl
@[simp] theorem aAx (b:Bool)(v w:d9)(m a:Mem):bi b (⟨v,m⟩:VM) ⟨w,a⟩=⟨bi b v w,bi b m a⟩:=by cases b<;>rfl
end Go.AM
namespace Go.AM
open Go
@[simp] theorem aml (w:Bool):sw w .undef=false:=id rfl
theorem pR {i:Nat}(h0:0<i)(h:i<4611686018427387904):lI ((i:Int)-1)=((i-1:Nat):Int):=by rw [Z8 (by omega) (by omega)];omega
def Z0 (p:Nat->Bool):Nat->Nat->Bool
 | 0,_=>true
 | j+1,i=>p i&&Z0 p j (i+1)
def okB (xs:List Int)(i:Nat):Bool:=(decide (1<=xs.getD i 0)&&decide (xs.getD i 0<=1099511627776))&&(decide (i=0)||decide (xs.getD (i-1) 0<xs.getD i 0))
theorem kP {xs:List Int}{i:Nat}(h:i<xs.length):xs.getD i 0=xs[i]:=by simp [List.getD,h]
end Go.AM
namespace Go.AM
open Go
@[simp] theorem amm (c:List PK)(a b:List d9):dS c (.agg a) (.agg b)=fH c a b:=id rfl
@[simp] theorem amn:fH [] [] []=some true:=id rfl
@[simp] theorem amo (k:PK)(c:List PK)(x y:d9)(a b:List d9):fH (k::c) (x::a) (y::b)=ob (PN k x y) λr=>bi r (fH c a b) (some false):=id rfl
@[simp] theorem aAy:PN .i=iC:=id rfl
@[simp] theorem anm (k:IntKind)(a b:Int):iC (.int k a) (.int k b)=some (decide (a=b)):=by show bi (kEq k k) (some (uJ a b)) none=_;rw [JU,ni,show (a==b)=decide (a=b) from rfl];rfl
@[simp] theorem agH (b c:Bool):bi b (some c) (some false)=some (b&&c):=by cases b<;>rfl
theorem J2 (n:Nat)(k:IntKind)(i:Int):bS (n+1) (.int k i) (.int k i)=true:=by show bi (kEq k k) (uJ i i) false=true;rw [JU,ni];simp
theorem fK {m:Mem}{v:d9}{xs:List Int}(h:Y9 m v xs)(n:Nat):bS (n+1) v v=true:=by rcases h with⟨rfl,rfl⟩ | ⟨id,⟨c,rfl⟩ | ⟨c,rfl⟩,_⟩;rfl;show bi (Nat.beq id.1 id.1) (bi (Nat.beq id.2 id.2) (bi (Nat.beq _ _) (Nat.beq _ _) false) false) false=true;simp [ah];show bi (Nat.beq id.1 id.1) (bi (Nat.beq id.2 id.2) (bi (Nat.beq _ _) (Nat.beq _ _) false) false) false=true;simp [ah]
theorem FI (f:d9->d9->Bool)(x y:d9)(a b:List d9):vN f (x::a) (y::b)=bi (f x y) (vN f a b) false:=rfl
theorem JV (f:d9->d9->Bool):vN f [] []=true:=rfl
theorem FJ (n:Nat)(a b:List d9):bS (n+1) (.agg a) (.agg b)=vN (bS n) a b:=rfl
end Go.AM
namespace Go.AM
open Go
section
variable {α β:Type}
@[congr] theorem aEj {o a:Option α}{k:α->Option β}(h:o=a):ob o k=ob a k:=by rw [h]
@[congr] theorem aAz {o a:Option (List α)}{k:α->Option (List β)}(h:o=a):bnd o k=bnd a k:=by rw [h]
@[congr] theorem azt {o a:Option (List α)}{k:α->Option β}(h:o=a):Tc o k=Tc a k:=by rw [h]
@[congr] theorem azu {v a:d9}{p:d9->β}{q:β}(h:v=a):jf v p q=jf a p q:=by rw [h]
@[congr] theorem azv {v a:d9}{k:Nat->Nat->Option β}(h:v=a):pG v k=pG a k:=by rw [h]
@[congr] theorem azw {v a:d9}{k:IntKind->Int->Option β}(h:v=a):xD v k=xD a k:=by rw [h]
@[congr] theorem ano {v a:d9}{k:Bool->Option β}(h:v=a):qU v k=qU a k:=by rw [h]
@[congr] theorem azx {v a:d9}{k:List d9->Option β}(h:v=a):EX v k=EX a k:=by rw [h]
@[congr] theorem azy {v a:d9}{k:List d9->Option β}(h:v=a):PG v k=PG a k:=by rw [h]
@[congr] theorem azz {v a:d9}{k:List UInt8->Option β}(h:v=a):xg v k=xg a k:=by rw [h]
end
end Go.AM
namespace Go.AM
open Go
section
variable {α β:Type}
@[simp high] theorem amq (a:α)(k:α->Option β):ob (some a) k=k a:=id rfl
@[simp high] theorem amr (k:α->Option β):ob none k=none:=id rfl
@[simp high] theorem ams (x y:α):bi true x y=x:=id rfl
@[simp high] theorem ajk (x y:α):bi false x y=y:=id rfl
@[simp high] theorem ajl (l:T α)(x:α)(r:T α):(T.nd l x r).get 0=some x:=id rfl
@[simp high] theorem azA (i:Nat)(x:α):(T.e:T α).put i x=.nd .e x .e:=id rfl
@[simp high] theorem ajm (x:α)(n:Nat)(t:T α)(i:Nat):T.rep x (n+1) t i=T.rep x n (t.put i x) (i+1):=id rfl
@[simp high] theorem aac (m:Mem):reserve 0 m=m:=id rfl
@[simp high] theorem aad (n:Nat)(m:Mem):reserve (n+1) m=reserve n (m.new .void):=id rfl
@[simp high] theorem ajn (m:Mem)(b:Z6):(m.new b).nx=m.nx+1:=id rfl
@[simp high] theorem amt (m:Mem)(b:Z6):(m.new b).lim=m.lim:=id rfl
@[simp high] theorem ajo (m:Mem)(i:Nat)(b:Z6):(m.set i b).nx=m.nx:=id rfl
@[simp high] theorem amu (m:Mem)(i:Nat)(b:Z6):(m.set i b).lim=m.lim:=id rfl
end
end Go.AM
namespace Go.AM
open Go
@[simp] theorem agI:bS 100 .undef .undef=true:=id rfl
end Go.AM
namespace Go.AM
open Go
theorem zD (k:IntKind)(a b:Nat)(h:b≠0):BK k (a:Int) (b:Int)=some (.int k ((a%b:Nat):Int)):=by
 cases b with
 | zero=>exact absurd rfl h
 | succ b=>rfl
end Go.AM
namespace Go.AM
open Go
theorem Rb {β:Type}{es:Nat}{a:List d9}(h:a.length=es)(k:Z6->Option β):jR es 1 a k=k (j5 a):=by show ob (ob (takeN es a) λr=>ob (rowsOf es 0 (gQ es a)) λb=>some (r::b)) (λc=>k (.cells es 1 (T.ofList c)))=_;rw [iw _ _ (by omega),I9,eT,zu (by omega),aaF (by omega)];show k (.cells es 1 (.nd .e a .e))=k (.cells (len' a) 1 (.nd .e a .e));rw [K7,h]
theorem J3 (es:Nat)(zero:List d9)(ps:List (Nat×Nat×OF))(ls:List d9)(env:T d9)(nid:Nat)(e:zero.length=es):I8 es 1 zero ps ls env nid=ob (lay ps ls env zero) λcells=>if cells.length=es then some (.slice nid 0 1 1,some (j5 cells)) else none:=by
 show ob (lay ps ls env (cZ zero [])) (λcells=>jR es 1 cells λb=>some (d9.slice nid 0 1 1,some b))=_;rw [V8,acH];congr 1;funext cells;split;rename_i h;rw [Rb h];rename_i h;show ob (ob (takeN es cells) λr=>ob (rowsOf es 0 (gQ es cells)) λa=>some (r::a)) _=none;cases ht:takeN es cells with
 | none=>rfl
 | some r=>
  obtain⟨c,d⟩:=ow _ _ _ ht;rw [I9,eT];cases hd:cells.drop es with
  | nil=>have:=List.drop_eq_nil_iff.1 hd;omega
  | cons x xs=>rfl
@[simp] theorem anp {β:Type}(len:Nat)(k:Nat->Option β):idx len (.int .i64 0) k=if 0<len then k 0 else none:=by show bi (Nat.blt 0 len) (k 0) none=_;rw [XV]
noncomputable def msB (b:Option Z6)(f:IU)(n:Nat)(k x:d9):Option Z6:=
 YJ b λes=>ob (fI f n k es) λr=>Option.rec (some (.map (es ++ [(k,x)]))) (λp=>ob es[p.1]? λe=>bi (Nat.beq e.1.cells.length n) (some (.map (mU es k x p.1))) none) r
theorem Ck (f:IU)(n:Nat)(mp k x:OF)(cf:H7)(ls:List d9)(env:T d9)(m:Mem):mV f n mp k x cf ls env m=AR (mp ls env) none λid=>bi (Nat.blt id m.lim) none (ob (msB (m.get id) f n (k ls env) (x ls env)) λb=>some [⟨.undef,m.set id b⟩]):=by
 show AR (mp ls env) none (λid=>bi (Nat.blt id m.lim) none _)=_;congr 1;funext id;congr 1;unfold msB;match m.get id with
 | some (.map es)=>
  show ob (fI f n (k ls env) es) _=ob (ob (fI f n (k ls env) es) _) _;cases fI f n (k ls env) es with
  | none=>rfl
  | some r=>
   cases r with
   | none=>simp [V8];rfl
   | some p=>
    simp only [I9];show ob (vJ p.1 es) _=ob (ob es[p.1]? _) _;rw [ng];cases es[p.1]? with
    | none=>rfl
    | some e=>simp only [I9,K7];cases Nat.beq e.1.cells.length n<;>rfl
 | some .void | some .dead | some (.cells ..) | some (.iter ..) | some (.tail _) | some (.loop ..) | some .deferred | none=>rfl
@[congr] theorem azB {β:Type}{v a:d9}{z:Option β}{k:Nat->Option β}(h:v=a):AR v z k=AR a z k:=by rw [h]
theorem VR {m:Mem}(a:m.lim<=m.nx)(l:List Z6)(c:Nat):Nat.blt (m.nx+c) (ext m l).lim=false:=by
 rw [Ap];cases h:Nat.blt (m.nx+c) m.lim with
 | false=>rfl
 | true=>have:=O6.mp h;omega
theorem Ea {m:Mem}(a:m.lim<=m.nx)(l:List Z6):Nat.blt m.nx (ext m l).lim=false:=VR a l 0
theorem OC (es:List (d9×d9))(f:IU)(n:Nat)(k x:d9):msB (some (.map es)) f n k x=ob (fI f n k es) λr=>Option.rec (some (.map (es ++ [(k,x)]))) (λp=>ob es[p.1]? λe=>bi (Nat.beq e.1.cells.length n) (some (.map (mU es k x p.1))) none) r:=rfl
theorem wz (f:IU)(n:Nat)(k:d9):fI f n k []=bi (Nat.beq (len' k.cells) n) (ob (f k k) λ_=>some none) none:=rfl
theorem U2 (f:IU)(n:Nat)(k:d9)(e:d9×d9)(es:List (d9×d9)):fI f n k (e::es)=bi (Nat.beq (len' k.cells) n) (findKey f k (e::es) 0) none:=rfl
@[simp] theorem ajp (f:OF)(b:List (Option Nat))(a d:bE)(cf:H7)(e:Nat)(env:T d9)(m:Mem)(k:List Mk):oL f b a d cf e none env m k=Te cf (f [] env) b a d env (m.new .deferred) (.c m.nx::k):=id rfl
@[simp] theorem amv (cf:H7)(f:FuncId)(a b:List d9)(params:List (Option Nat))(assign body:bE)(env:T d9)(m:Mem)(k:List Mk):Te cf (.func (.func f) a b) params assign body env m k =
  bnd (cf (.func f) (a++(.func (.yield m.nx) [] []::b)) (m.new (.loop .ready none env params assign body))) λr=>jf r.v (λ_=>none) <|
   sQ (r.m.get m.nx) λst pend _ _ _ _=>match st with
    | .busy=>none
    | _=>match pend with
     | none=>uf .normal env (r.m.set m.nx .dead) k
     | some x=>uf x env (r.m.set m.nx .dead) k:=by
 show bnd (cf (.func f) (cZ a (cZ [.func (.yield m.nx) [] []] b)) _) _=_;rw [V8,V8];rfl
@[simp] theorem anq {β:Type}(c:LoopState)(a:Option bP)(env:T d9)(ps:List (Option Nat))(b bd:bE)(f:LoopState->Option bP->T d9->List (Option Nat)->bE->bE->Option β):sQ (some (.loop c a env ps b bd)) f=f c a env ps b bd:=id rfl
theorem adx (a:mY)(rs:List qQ)(env:T d9)(m:Mem)(id:Nat)(h:m.get id=some .deferred):leave a rs ⟨.ret,env,m,[.c id],none⟩=ob (results rs env (m.set id .dead)) λl=>some [⟨result l,m.set id .dead⟩]:=by show Zo (m.get id) _=_;rw [h];rfl
end Go.AM
namespace Go.AM
open Go
theorem Cm {β:Type}{m:Mem}{id:Nat}(a:m.lim<=id)(off:Nat)(vs:List d9)(k:Mem->Option β):storeAt m id off vs k=bi (I7 vs) (ob (stB (m.get id) off vs) λb=>k (m.set id b)) none:=by
 cases h1:I7 vs with
 | true=>rw [bW a h1];rfl
 | false=>unfold storeAt;rw [h1];cases Nat.blt id m.lim<;>rfl
def OD (P:Program):List Field->Nat->Nat->Bool
 | [],o,n=>Nat.beq o n
 | f::fs,o,n=>Nat.beq f.offset o&&OD P fs (o+P.cellsOf f.type) n
def FK (P:Program):Nat->TypeId->Bool
 | 0,_=>false
 | n+1,t=>match P.underlying t with
  | some .bool=>true
  | some (.int _)=>true
  | some .string=>true
  | some (.slice e)=>FK P n e&&Nat.blt 0 (P.cellsOf e)
  | some (.struct fs)=>fs.toList.all (λf=>FK P n f.type)&&OD P fs.toList 0 (P.cellsOf t)
  | _=>false
def Rc (S:TypeId->List d9->Prop):List Field->List d9->Prop
 | [],vs=>vs=[]
 | f::fs,vs=>∃a b,vs=a++b∧S f.type a∧Rc S fs b
def GV (P:Program)(m:Mem):Nat->TypeId->List d9->Prop
 | 0,_,_=>False
 | n+1,t,vs=>match P.underlying t with
  | some .bool=>∃b,vs=[.bool b]
  | some (.int k)=>∃i,vs=[.int k i]∧(Lit.int k i).wf=true
  | some .string=>∃s:List UInt8,vs=[.str s]∧s.length<=maxLen
  | some (.slice e)=>vs=[.nilSlice]∨∃id len cap,vs=[.slice id 0 len cap]∧len<=cap∧cap<=maxLen∧
    ((cap=0∧m.get id=some .dead)∨∃rows,0<cap∧m.get id=some (.cells (P.cellsOf e) cap rows)∧∀i,i<cap->∃row,rows.get i=some row∧row.length=P.cellsOf e∧GV P m n e row)
  | some (.struct fs)=>Rc (GV P m n) fs.toList vs
  | _=>False
theorem JW {S S':TypeId->List d9->Prop}(h:∀t vs,S t vs->S' t vs):∀fs vs,Rc S fs vs->Rc S' fs vs
 | [],_,hv=>hv
 | _::fs,_,⟨a,b,e,h1,h2⟩=>⟨a,b,e,h _ _ h1,JW h fs b h2⟩
theorem Eb {P:Program}{m d:Mem}(h:∀i b,m.get i=some b->d.get i=some b):∀n t vs,GV P m n t vs->GV P d n t vs:=by
 intro n;induction n with
 | zero=>intro t vs a;exact a
 | succ n ih=>
  intro t vs a;unfold GV at a ⊢;split at a;exact a;exact a;exact a;rcases a with a | ⟨id,len,cap,h1,h2,h3,h4⟩;exact .inl a;refine .inr ⟨id,len,cap,h1,h2,h3,?_⟩;rcases h4 with⟨h4,h5⟩ | ⟨rows,h4,h5,h6⟩;exact .inl ⟨h4,h _ _ h5⟩;exact .inr ⟨rows,h4,h _ _ h5,λi j=>by
   obtain⟨c,e,f,g⟩:=h6 i j;exact⟨c,e,f,ih _ _ g⟩⟩
  exact JW (λt vs=>ih t vs) _ _ a;exact a
section
variable {P:Program}{G:Mem}{hp:Array Obj}
theorem Mem.zG (m:Mem)(i:Nat):m.shut.get i=m.get i:=rfl
theorem RM.push {ι:N9}{m:Mem}(h:RM P G ι m hp)(s:m.lim=m.nx){b:Z6}{l:Loc}(p:jT b=false)(hs:bG b=true->l.spot=none)
  (hb:gW P (ι.upd m.nx l) ((m.new b).nm (ι.upd m.nx l)) hp l b):RM P G (ι.upd m.nx l) (m.new b).shut hp:=by
 have c:∀i,(m.new b).shut.get i=if i=m.nx then some b else m.get i:=λi=>Mem.P5 h.ok b i
 have o:∀i x,m.get i=some x->i≠m.nx:=λi x a e=>by have:=Mem.Q6 h.ok a;omega
 have d:∀j,m.has j->ι.upd m.nx l j=ι j:=λj ⟨x,a,_⟩=>ι.upd_ne l (o j x a);have g:∀i,m.has i->(m.new b).shut.has i:=λi ⟨x,a,p⟩=>⟨x,by rw [c,if_neg (o i x a)];exact a,p⟩;have r:G.nx<=m.nx:=nM h.glim h.limn;refine⟨h.ok.push b,λi x a=>?_,λi x f a _=>?_,?_,aA _,h.gle,λi f=>?_,λi f=>g i (h.ghas i f),λi f=>?_,λi x a k=>?_,h.gsz⟩;rw [c] at a;split at a;rename_i e;subst e;cases a;rw [ι.aJ];exact hb;rename_i e;rw [ι.upd_ne l e];exact (h.blk i x a).mono (n:=m.nm ι) d (Mem.cK g d) λ_=>rfl;have q:=Mem.Q6 (m:=(m.new b).shut) (h.ok.push b) a;have f:(m.new b).shut.nx<=i:=f;omega;show G.nx<=m.nx+1;omega;rw [c,if_neg (by omega)];exact h.base i f;rw [d i (h.ghas i f)];exact h.glob i f;rw [c] at a;split at a;rename_i e;subst e;cases a;rw [ι.aJ];exact hs k;rename_i e;rw [ι.upd_ne l e];exact h.spot i x a k
structure Lifts (P:Program)(G:Mem)(hp:Array Obj)(ι:N9)(m:Mem)(ι':N9)(m':Mem):Prop where
 rm:RM P G ι' m' hp
 lim:m'.lim=m'.nx
 get:∀i b,m.get i=some b->m'.get i=some b
 ext:∀i,m.has i->ι' i=ι i
theorem Lifts.refl {ι:N9}{m:Mem}(h:RM P G ι m hp)(a:m.lim=m.nx):Lifts P G hp ι m ι m:=⟨h,a,λ_ _ h=>h,λ_ _=>rfl⟩
theorem Lifts.has {ι ι':N9}{m a:Mem}(h:Lifts P G hp ι m ι' a)(i:Nat)(hi:m.has i):a.has i:=by obtain⟨x,b,c⟩:=hi;exact⟨x,h.get i x b,c⟩
theorem Lifts.trans {a ι2 c:N9}{e f m3:Mem}(h:Lifts P G hp a e ι2 f)(k:Lifts P G hp ι2 f c m3):Lifts P G hp a e c m3:=
 ⟨k.rm,k.lim,λi b g=>k.get i b (h.get i b g),λi d=>(k.ext i (h.has i d)).trans (h.ext i d)⟩
theorem Lifts.u7 {ι ι':N9}{m b:Mem}(h:Lifts P G hp ι m ι' b){vs:List d9}(a:eU (m.nm ι) vs):C8 ι' vs=C8 ι vs:=iX (n:=m.nm ι) h.ext vs a
theorem Lifts.lt {ι ι':N9}{m a:Mem}(h:Lifts P G hp ι m ι' a){vs:List d9}(b:eU (m.nm ι) vs):eU (a.nm ι') vs:=iL (Mem.cK h.has h.ext) vs b
theorem Lifts.push {ι:N9}{m:Mem}(h:RM P G ι m hp)(d:m.lim=m.nx){b:Z6}{l:Loc}(f:jT b=false)(hs:bG b=true->l.spot=none)
  (hb:gW P (ι.upd m.nx l) ((m.new b).nm (ι.upd m.nx l)) hp l b):Lifts P G hp ι m (ι.upd m.nx l) (m.new b).shut:=by
 have c:∀i x,m.get i=some x->i≠m.nx:=λi x a e=>by have:=Mem.Q6 h.ok a;omega
 exact⟨h.push d f hs hb,rfl,λi x a=>by rw [Mem.zG,Mem.P5 h.ok,if_neg (c i x a)];exact a,λj ⟨x,a,_⟩=>ι.upd_ne l (c j x a)⟩
def Gets (P:Program)(G:Mem)(hp:Array Obj)(ι:N9)(m:Mem)(cs:List Value)(S:Mem->List d9->Prop):Prop:=
 ∃ι' m' vs,Lifts P G hp ι m ι' m'∧C8 ι' vs=cs∧eU (m'.nm ι') vs∧S m' vs
variable {H:Type}{enc:TypeId×Value->H}{w:World}{held:Bool}
theorem Rf {cs:List Value}{S:Mem->TypeId->List d9->Prop}(v:∀m m' t vs,(∀i b,m.get i=some b->m'.get i=some b)->S m t vs->S m' t vs):
  ∀(fs:List Field) (o:Nat),(∀f∈fs,∀ι m,RM P G ι m hp->m.lim=m.nx->Gets P G hp ι m ((cs.drop f.offset).take (P.cellsOf f.type)) (λm' vs=>S m' f.type vs))->OD P fs o cs.length=true->
   ∀ι m,RM P G ι m hp->m.lim=m.nx->Gets P G hp ι m (cs.drop o) (λm' vs=>Rc (S m') fs vs):=by
 intro fs;induction fs with
 | nil=>intro o _ c ι m j h;have:o=cs.length:=l7 c;exact⟨ι,m,[],Lifts.refl j h,by rw [this];simp [C8],trivial,rfl⟩
 | cons f fs ih=>intro o p c ι m j h;simp only [OD,rW] at c;have u:f.offset=o:=l7 c.1;obtain⟨k,z,a,e,r,n,s⟩:=p f (by simp) ι m j h;obtain⟨l,A,b,d,w,x,y⟩:=ih (o+P.cellsOf f.type) (λq g=>p q (by simp [g])) c.2 k z e.rm e.lim;refine⟨l,A,a++b,e.trans d,?_,lU (d.lt n) x,a,b,rfl,v _ _ _ _ d.get s,y⟩;rw [ny,d.u7 n,r,w,u,← ajK,aBX]
theorem XW {n ce:Nat}{row:Nat->List Value}{S:Mem->List d9->Prop}(q:∀m m' vs,(∀i b,m.get i=some b->m'.get i=some b)->S m vs->S m' vs)
  (h:∀i,i<n->∀ι m,RM P G ι m hp->m.lim=m.nx->Gets P G hp ι m (row i) S):∀c,c<=n->∀ι m,RM P G ι m hp->m.lim=m.nx->
   ∃(ι':N9) (m':Mem) (rl:List (List d9)),Lifts P G hp ι m ι' m'∧rl.length=c∧∀i r,rl[i]?=some r->C8 ι' r=row i∧eU (m'.nm ι') r∧S m' r:=by
 intro c;induction c with
 | zero=>intro _ ι m g f;exact⟨ι,m,[],Lifts.refl g f,rfl,λi r a=>by simp at a⟩
 | succ c ih=>
  intro A ι m g f;obtain⟨j,v,rl,e,o,p⟩:=ih (by omega) ι m g f;obtain⟨k,w,r,d,s,t,u⟩:=h c (by omega) j v e.rm e.lim;refine⟨k,w,rl ++ [r],e.trans d,by simp [o],λi z a=>?_⟩;by_cases hi:i<rl.length;rw [acv hi] at a;obtain⟨x,l,y⟩:=p i z a;exact⟨by rw [d.u7 l,x],d.lt l,q _ _ _ d.get y⟩;rw [acM (by omega)] at a;have:i-rl.length=0:=by have:=(gB.1 a).1;simp at this;omega
  rw [this] at a;simp at a;subst a;rw [show i=c from by omega];exact⟨s,t,u⟩
theorem lift (k:Nat):∀(n:Nat) (t:TypeId) (cs:List Value) (x:DataW H×List MemPlace),DataW.trod enc P w 0 (λ_=>true) held n t cs=some x->FK P k t=true->
  ∀ι m,RM P G ι m w.heap->m.lim=m.nx->Gets P G w.heap ι m cs (λm' vs=>GV P m' k t vs):=by
 induction k with
 | zero=>intro n t cs x _ h;cases h
 | succ k ih=>
  intro n t cs x y hp ι m E M;unfold FK at hp;have q:∀vs:List d9,C8 ι vs=cs->eU (m.nm ι) vs->GV P m (k+1) t vs->Gets P G w.heap ι m cs (λm' vs=>GV P m' (k+1) t vs):=λvs Z h2 h3=>⟨ι,m,vs,Lifts.refl E M,Z,h2,h3⟩;split at hp;rename_i o;obtain⟨b,rfl,_⟩:=DataW.trod_bool o y;exact q [.bool b] rfl ⟨trivial,trivial⟩ (by unfold GV;rw [o];exact⟨b,rfl⟩);rename_i ik o;obtain⟨i,rfl,_,hw⟩:=DataW.trod_int o y;exact q [.int ik i] rfl ⟨trivial,trivial⟩ (by unfold GV;rw [o];exact⟨i,rfl,hw⟩);rename_i o;obtain⟨s,rfl,_,hw⟩:=DataW.trod_string o y;have a9:s.data.toList.length<=maxLen:=by simpa using hw
  exact q [.str s.data.toList] (by simp [C8,u7]) ⟨trivial,trivial⟩ (by unfold GV;rw [o];exact⟨s.data.toList,rfl,a9⟩);rename_i e o;simp only [rW] at hp;have z:0<P.cellsOf e:=O6.mp hp.2;rcases Deep.open_slice o y with⟨rfl,_⟩ | ⟨a,len,cap,mm,n',D,Pl,rfl,_,A,hcap,V,_,hel⟩;exact q [.nilSlice] rfl ⟨trivial,trivial⟩ (by unfold GV;rw [o];exact .inl rfl);have V:mm=cap:=by simpa using V
  subst V;by_cases h0:mm=0;subst h0;have A:len=0:=by omega
  subst A;have L:=Lifts.push (b:=.dead) (l:=⟨a.block,a.off,0,a.spot⟩) E M rfl (by intro h;cases h) trivial;refine⟨_,_,[.slice m.nx 0 0 0],L,?_,⟨⟨.dead,by rw [Mem.zG,Mem.P5 E.ok,if_pos rfl],rfl⟩,trivial⟩,?_⟩;simp [C8,u7,N9.at];unfold GV;rw [o];exact .inr ⟨m.nx,0,0,rfl,aA _,hcap,.inl ⟨rfl,by rw [Mem.zG,Mem.P5 E.ok,if_pos rfl]⟩⟩;obtain⟨row,N⟩:=Deep.choose_lt hel;obtain⟨u,C,R,U,g2,g3⟩:=XW (n:=mm) (ce:=P.cellsOf e) (row:=row) (S:=λm' vs=>GV P m' k e vs) (λm m' vs h hs=>Eb h k e vs hs)
   (λi g ι m E M=>ih n' e (row i) _ (N i g).2 hp.1 ι m E M) mm (aA _) ι m E M
  have d:∀i j,i<mm->j<P.cellsOf e->w.cell? ((a.add (i*P.cellsOf e)).add j)=(row i)[j]?∧(row i).length=P.cellsOf e:=λi j g K=>by obtain⟨_,Q,I⟩:=World.cells?_some (N i g).1;exact⟨I j K,Q⟩
  have p:∀i j,i<mm->j<P.cellsOf e->∃v,(row i)[j]?=some v:=λi j g K=>⟨_,cB (by rw [(d i j g K).2];exact K)⟩;have B:a.spot=none:=by
   obtain⟨v,W⟩:=p 0 0 (by omega) z;have:=(d 0 0 (by omega) z).1;rw [W] at this;unfold World.cell? at this;split at this;split at this;cases this;rename_i hn;simp only [acL,Addr.add,if_true] at hn;cases hs:a.spot with
   | none=>rfl
   | some s=>rw [hs] at hn;simp at hn
   cases this
  obtain⟨c,X,Y,hc⟩:∃c X Y,w.heap[a.block]?=some (.cells c X Y):=by obtain⟨v,W⟩:=p 0 0 (by omega) z;have:=(d 0 0 (by omega) z).1;rw [W] at this;unfold World.cell? at this;split at this;rename_i c X Y hh;simp only [acL,Addr.add,if_true] at hh;exact⟨c,X,Y,hh⟩;cases this
  have a0:∀i j,(a.add (i*P.cellsOf e)).add j=⟨a.block,a.off+(i*P.cellsOf e+j),none⟩:=λi j=>by rw [Deep.add_add];unfold Addr.add;split;rename_i h;rw [h,acy,← B];rfl
  have a1:∀i j,i<mm->j<P.cellsOf e->c[a.off+(i*P.cellsOf e+j)]?=(row i)[j]?:=λi j g K=>by have:=(d i j g K).1;rw [a0] at this;simpa [World.cell?,hc] using this
  have F:a.off+mm*P.cellsOf e<=c.size:=by
   obtain⟨v,W⟩:=p (mm-1) (P.cellsOf e-1) (by omega) (by omega);have:=a1 (mm-1) (P.cellsOf e-1) (by omega) (by omega);rw [W] at this;have Z:=(wu.1 this).1;have h2:(mm-1)*P.cellsOf e+P.cellsOf e=mm*P.cellsOf e:=by rw [← acO];congr 1;omega
   omega
  have a6:∀i,i<mm->∃r,R[i]?=some r∧C8 u r=row i∧eU (C.nm u) r∧GV P C k e r∧r.length=P.cellsOf e:=λi g=>by have hh:R[i]?=some R[i]:=cB (by omega);obtain⟨O,Q,I⟩:=g3 i _ hh;refine⟨_,hh,O,Q,I,?_⟩;have:=congrArg List.length O;rw [dz] at this;rw [this,(d i 0 g z).2]
  have a5:∀i x,C.get i=some x->i≠C.nx:=λi x y e=>by have:=Mem.Q6 U.rm.ok y;omega
  have J:∀j,C.has j->(u.upd C.nx ⟨a.block,a.off,mm*P.cellsOf e,none⟩) j=u j:=λj ⟨x,y,_⟩=>u.upd_ne _ (a5 j x y);have a3:∀i,C.has i->(C.new (.cells (P.cellsOf e) mm (T.ofList R))).has i:=λi ⟨x,y,W⟩=>⟨x,by rw [Mem.P5 U.rm.ok,if_neg (a5 i x y)];exact y,W⟩;have L:=Lifts.push (b:=.cells (P.cellsOf e) mm (T.ofList R)) (l:=⟨a.block,a.off,mm*P.cellsOf e,none⟩) U.rm U.lim rfl (λ_=>rfl)
   ⟨c,X,Y,hc,F,⟨aA _,R.length,by omega,T.kK R⟩,λi g=>by
    obtain⟨r,O,Q,I,q4,q5⟩:=a6 i g;refine⟨r,by rw [T.bN];exact O,q5,iL (Mem.cK a3 J) r I,λj K=>?_⟩;show c[a.off+(i*P.cellsOf e+j)]?=_;rw [a1 i j g K,← Q,dZ];cases hr:r[j]? with
    | none=>rfl
    | some v=>simp [aV (n:=C.nm u) J v (fZ.1 I v (O7 hr))]⟩
  refine⟨_,_,[.slice C.nx 0 len mm],U.trans L,?_,⟨⟨_,by rw [Mem.zG,Mem.P5 U.rm.ok,if_pos rfl],rfl⟩,trivial⟩,?_⟩;simp only [C8,u7];rw [N9.Dh (by rw [N9.aJ]),N9.aJ];simp only [acy];rw [← B];unfold GV;rw [o];refine .inr ⟨C.nx,len,mm,rfl,A,hcap,.inr ⟨T.ofList R,by omega,by rw [Mem.zG,Mem.P5 U.rm.ok,if_pos rfl],λi g=>?_⟩⟩;obtain⟨r,O,Q,I,q4,q5⟩:=a6 i g;exact⟨r,by rw [T.bN];exact O,q5,Eb L.get k e r q4⟩;rename_i fs o;simp only [rW,acI] at hp;obtain⟨xs,n',rfl,_,a7,aa,hf⟩:=DataW.trod_struct o y;have:=Rf (P:=P) (G:=G) (hp:=w.heap) (cs:=cs) (S:=λm' t vs=>GV P m' k t vs) (λm m' t vs h hs=>Eb h k t vs hs) fs.toList 0
   (λf a2 ι m E M=>by
    obtain⟨i,g⟩:=acu a2;have a4:fs[i]?=some f:=(by simpa using g);have Z:=hf i f a4;have a8:i<xs.length:=(by rw [aa];exact (wu.1 a4).1);rw [cB a8] at Z;exact ih n' f.type _ _ Z (hp.1 f a2) ι m E M) (by rw [a7];exact hp.2) ι m E M
  obtain⟨ab,m',vs,O,Q,I,q4⟩:=this;refine⟨ab,m',vs,O,by simpa using Q,I,?_⟩;unfold GV;rw [o];exact q4;cases hp
end
structure AX (m:Mem)(id rs:Nat)(l:List (List d9)):Prop where
 pos:0<rs
 len:∀r,r∈l->r.length=rs
 blk:∃c t c',m.get id=some (.cells rs c t)∧l.length<=c∧c<=c'∧T.Ok t c'∧∀i (h:i<l.length),t.get i=some l[i]
structure dh (id:Nat)(m m':Mem):Prop where
 ok:T.Ok m'.t m'.nx
 nx:m.nx<=m'.nx
 lim:m'.lim=m.lim
 old:∀i,i<m.nx->i≠id->m'.get i=m.get i
theorem dh.refl {id:Nat}{m:Mem}(h:T.Ok m.t m.nx):dh id m m:=⟨h,aA _,rfl,λ_ _ _=>rfl⟩
theorem dh.trans {id:Nat}{a b c:Mem}(h:dh id a b)(k:dh id b c):dh id a c:=
 ⟨k.ok,nM h.nx k.nx,k.lim.trans h.lim,λi d e=>(k.old i (aP d h.nx) e).trans (h.old i d e)⟩
theorem Ext.toB {id:Nat}{a b:Mem}(h:Ext a b):dh id a b:=⟨h.ok,h.nx,h.lim,λi c _=>h.old i c⟩
theorem Ext.qp {id:Nat}{a b c:Mem}(h:Ext a b)(k:dh id b c)(e:a.nx<=id):Ext a c:=
 ⟨k.ok,nM h.nx k.nx,k.lim.trans h.lim,λi d=>(k.old i (aP d h.nx) (by omega)).trans (h.old i d)⟩
theorem AX.same {m a:Mem}{id rs:Nat}{l:List (List d9)}(h:AX m id rs l)(e:a.get id=m.get id):AX a id rs l:=by obtain⟨p,g,c,t,b,d,f⟩:=h;exact⟨p,g,c,t,b,e.trans d,f⟩
theorem AX.ext {m b:Mem}{id rs:Nat}{l:List (List d9)}(h:AX m id rs l)(a:id<m.nx)(e:Ext m b):AX b id rs l:=h.same (e.old id a)
theorem AX.take {m:Mem}{id rs:Nat}{l:List (List d9)}(h:AX m id rs l)(k:Nat):AX m id rs (l.take k):=by
 obtain⟨p,n,c,t,b,e,q,d,f,g⟩:=h;refine⟨p,λr o=>n r (acF o),c,t,b,e,by simp;omega,d,f,λi j=>?_⟩;have a:i<l.length:=by simp at j;omega
 rw [g i a,aCw]
theorem AX.YR {m:Mem}{id rs:Nat}{l:List (List d9)}(h:AX m id rs l){i:Nat}(hi:i<l.length):AM.YR (m.get id) (i*rs) rs=some (.agg l[i]):=by obtain⟨p,f,c,t,o,d,r,q,s,e⟩:=h;have g:=f l[i] (M8 hi);have b:=wo (rs:=rs) (n:=c) (rows:=t) (i:=i) (j:=0) (k:=rs) p (by omega) (e i hi) g (by omega);rw [acy] at b;rw [d];show aU (some (Z6.cells rs c t)) (λa n rows=>ob (qc a n rows (i*rs) rs) λl=>some (d9.agg l))=_;rw [dG,b,I9,abR,aaF (by omega)]
theorem AX.ld1 {m:Mem}{id rs:Nat}{l:List (List d9)}(h:AX m id rs l){i j:Nat}(hi:i<l.length)(f:j<rs):AM.ld1 (m.get id) (i*rs+j)=l[i][j]?:=by obtain⟨p,r,c,t,g,d,o,k,q,e⟩:=h;rw [d];show aU (some (Z6.cells rs c t)) (λb n a=>cell1 b n a (i*rs+j))=_;rw [dG,gM f (by omega) (e i hi)]
theorem AX.store {m:Mem}{id rs:Nat}{l:List (List d9)}(h:AX m id rs l)(o:m.Ok)(a:id<m.nx)(d:m.lim<=id){i:Nat}(hi:i<l.length){row:List d9}(E:row.length=rs)(B:I7 row=true):
  ∃m',(∀{β:Type} (k:Mem->Option β),storeAt m id (i*rs) row k=k m')∧AX m' id rs (l.set i row)∧dh id m m':=by
 obtain⟨p,v,c,t,w,y,z,x,g,s⟩:=h;have D:Nat.div (i*rs) rs=i:=azC i p;have G:Nat.mod (i*rs) rs=0:=Nat.mul_mod_left i rs;have f:=s i hi;have C:=v l[i] (M8 hi);have F:bX rs c t (i*rs) row=some (t.put i row):=by
  unfold bX;rw [D,G,show Nat.blt i c=true from O6.mpr (by omega),f];show bi (Nat.ble (Nat.add 0 (len' row)) rs) (some (t.put i (pF 0 row l[i]))) none=_;rw [K7,show Nat.ble (Nat.add 0 row.length) rs=true from qb (by show 0+row.length<=rs;omega),pK _ _ _ (by omega),akx,W9,
   zu (by omega)]
  simp
 refine⟨m.set id (.cells rs c (t.put i row)),λk=>?_,⟨p,λr q=>?_,c,t.put i row,w,?_,by simpa using z,x,T.Ok.put g i row (by omega),λj u=>?_⟩,?_⟩;rw [bW d B,y];show ob (ob (bX rs c t (i*rs) row) λb=>some (Z6.cells rs c b)) _=_;rw [F];rfl;rcases ae0 q with h | rfl;exact v r h;exact E;rw [Mem.U6 o a,if_pos rfl];have n:j<l.length:=by simpa using u
 rw [aCM];split;rename_i e;subst e;exact T.aW g _ _ (by omega);rename_i e;rw [T.bV g _ _ _ (by omega) e];exact s j n;exact⟨Mem.Ok.set o a _,by simp,rfl,λj u A=>by rw [Mem.U6 o a,if_neg A]⟩
theorem Ec {rs n:Nat}{rows:T (List d9)}:∀(a b off:Nat),J7 rs n rows (a+b) off=ob (J7 rs n rows a off) λx=>ob (J7 rs n rows b (off+a)) λy=>some (x++y)
 | 0,b,off=>by rw [W9,acy];show _=ob (J7 rs n rows b off) λy=>some ([]++y);cases J7 rs n rows b off<;>rfl
 | a+1,b,off=>by
  rw [show a+1+b=(a+b)+1 from by omega];show ob (cell1 rs n rows off) (λv=>ob (J7 rs n rows (a+b) (off+1)) λl=>some (v::l))=ob (ob (cell1 rs n rows off) λv=>ob (J7 rs n rows a (off+1)) λl=>some (v::l)) _;rw [Ec a b (off+1),show off+1+a=off+(a+1) from by omega];cases cell1 rs n rows off with
  | none=>rfl
  | some v=>
   simp only [I9];cases J7 rs n rows a (off+1) with
   | none=>rfl
   | some x=>simp only [I9];cases J7 rs n rows b (off+(a+1))<;>rfl
theorem Ed {rs n:Nat}{rows:T (List d9)}{i:Nat}{row:List d9}(hi:i<n)(h:rows.get i=some row)(c:row.length=rs):
  ∀k j,j+k=rs->J7 rs n rows k (i*rs+j)=some (row.drop j):=by
 intro k;induction k with
 | zero=>intro j b;rw [zu (by omega)];rfl
 | succ k ih=>
  intro j b;show ob (cell1 rs n rows (i*rs+j)) (λv=>ob (J7 rs n rows k (i*rs+j+1)) λl=>some (v::l))=_;have a:j<row.length:=by omega
  rw [gM (by omega) hi h,cB a,I9,show i*rs+j+1=i*rs+(j+1) from by omega,ih (j+1) (by omega),M0 a];rfl
theorem jH {rs n:Nat}{rows:T (List d9)}{l:List (List d9)}(c:∀r,r∈l->r.length=rs)(h:∀i (h:i<l.length),rows.get i=some l[i])(d:l.length<=n):
  ∀k i,i+k=l.length->J7 rs n rows (k*rs) (i*rs)=some (l.drop i).flatten:=by
 intro k;induction k with
 | zero=>intro i b;rw [zu (by omega),acL];rfl
 | succ k ih=>
  intro i b;have a:i<l.length:=by omega
  have:=Ed (n:=n) (i:=i) (by omega) (h i a) (c _ (M8 a)) rs 0 (by omega);rw [acy,abR] at this;rw [show (k+1)*rs=rs+k*rs from by rw [adS,Nat.one_mul,ayh],Ec,this,I9,show i*rs+rs=(i+1)*rs from by rw [adS,Nat.one_mul],ih (i+1) (by omega),I9,M0 a];rfl
theorem GX {rs:Nat}:∀(l:List (List d9)),(∀r,r∈l->r.length=rs)->rowsOf rs l.length l.flatten=some l
 | [],_=>rfl
 | r::l,h=>by have hr:=h r (by simp);show ob (takeN rs (r++l.flatten)) (λx=>ob (rowsOf rs l.length (gQ rs (r++l.flatten))) λrest=>some (x::rest))=_;rw [iw _ _ (by simp;omega),I9,eT,List.drop_left' hr,List.take_left' hr,GX l (λx hx=>h x (by simp [hx]))];rfl
theorem OE {m:Mem}(b:m.Ok){rs:Nat}(hp:0<rs){l:List (List d9)}(a:∀r,r∈l->r.length=rs):AX (m.new (.cells rs l.length (T.ofList l))) m.nx rs l:=
 ⟨hp,a,l.length,T.ofList l,l.length,by rw [Mem.P5 b,if_pos rfl],aA _,aA _,T.kK l,λi h=>by rw [T.bN,cB h]⟩
theorem Cn {m:Mem}{rs:Nat}{l:List (List d9)}(b:∀r,r∈l->r.length=rs):grown m rs l.length l.flatten=some [⟨.sliceU m.nx 0 l.length rs,m.new (.cells rs l.length (T.ofList l))⟩]:=by show ob (rowsOf rs l.length l.flatten) (λa=>one (d9.sliceU m.nx 0 l.length rs) (m.new (.cells rs l.length (T.ofList a))))=_;rw [GX l b];rfl
theorem jI:∀(a b:List d9),I7 (a++b)=(I7 a&&I7 b)
 | [],_=>rfl
 | v::a,b=>by show bi (A8 v) (I7 (a++b)) false=(bi (A8 v) (I7 a) false&&I7 b);rw [jI a b];cases A8 v<;>rfl
theorem zH:∀(l:List (List d9)),(∀r,r∈l->I7 r=true)->I7 l.flatten=true
 | [],_=>rfl
 | r::l,h=>by rw [azM,jI,h r (by simp),zH l (λx hx=>h x (by simp [hx]))];rfl
theorem wX {rs n:Nat}(hp:0<rs):∀(vs:List d9) (t:T (List d9)) (off k n':Nat),n<=n'->T.Ok t n'->k*rs<=off->off+vs.length<=n*rs->
  ∃t',kH rs n vs t off=some t'∧T.Ok t' n'∧∀i,i<k->t'.get i=t.get i
 | [],t,off,k,n',_,h,_,_=>⟨t,rfl,h,λ_ _=>rfl⟩
 | v::vs,t,off,k,n',hnn,h,hk,hn=>by
  have hlt:off<n*rs:=by simp at hn;omega
  have hd:off / rs<n:=Nat.div_lt_of_lt_mul (by rw [adL];exact hlt);obtain⟨row,hrow⟩:=(h.get _).2 (aP hd hnn);have hmod:off%rs<rs:=adK _ hp;have hkd:k<=off / rs:=(agW hp).2 hk;have hw:bX rs n t off [v]=some (t.put (off / rs) (pF (off%rs) [v] row)):=by show bi (Nat.blt (off / rs) n) (ob (t.get (off / rs)) λrow=>bi (Nat.ble (off%rs+1) rs) (some (t.put (off / rs) (pF (off%rs) [v] row))) none) none=_;rw [show Nat.blt (off / rs) n=true from O6.mpr hd,hrow,aH,I9,show Nat.ble (off%rs+1) rs=true from qb hmod];rfl
  obtain⟨t',h1,h2,h3⟩:=wX hp vs (t.put (off / rs) (pF (off%rs) [v] row)) (off+1) k n' hnn (T.Ok.put h _ _ (aP hd hnn)) (by omega) (by simp at hn;omega);refine⟨t',?_,h2,λi hi=>?_⟩;show ob (bX rs n t off [v]) (λrows'=>kH rs n vs rows' (off+1))=_;rw [hw];exact h1;rw [h3 i hi,T.bV h _ _ _ (by omega) (by omega)]
theorem AX.clear {m:Mem}{id rs:Nat}{l:List (List d9)}(h:AX m id rs l)(r:m.Ok)(a:id<m.nx)(g:m.lim<=id){k:Nat}(K:k<=l.length){vs:List d9}(F:k*rs+vs.length<=l.length*rs)(E:I7 vs=true):
  ∃m',(∀{β:Type} (f:Mem->Option β),gI m id (k*rs) vs f=f m')∧AX m' id rs (l.take k)∧dh id m m':=by
 have x:=h.take k;obtain⟨p,L,c,t,u,y,z,w,A,B⟩:=h;cases vs with
 | nil=>exact⟨m,λf=>rfl,x,dh.refl r⟩
 | cons v vs=>
  obtain⟨s,G,H,I⟩:=wX p (v::vs) t (k*rs) k u w A (aA _) (nM F (U0 _ z));refine⟨m.set id (.cells rs c s),λ{β} f=>?_,⟨p,x.len,c,s,u,by rw [Mem.U6 r a,if_pos rfl],by simp;omega,w,H,λi C=>?_⟩,Mem.Ok.set r a _,by simp,rfl,λj J D=>by rw [Mem.U6 r a,if_neg D]⟩;show bi (Nat.blt id m.lim) none (bi (I7 (v::vs)) (aU (m.get id) λq n o=>ob (kH q n (v::vs) o (k*rs)) λb=>f (m.set id (.cells q n b))) none)=f (m.set id (.cells rs c s));rw [show Nat.blt id m.lim=false from aaD.2 λe=>absurd (O6.mp e) (Nat.not_lt.2 g),E,y,bA,aH,dG,G];rfl;have d:i<k∧i<l.length:=by simp at C;omega
  rw [I i d.1,B i d.2,aCw]
theorem GY {z:List d9}:∀n,(Q8 z n).length=n*z.length
 | 0=>by rw [acL];rfl
 | n+1=>by show (cZ z (Q8 z n)).length=_;rw [V8,acp,GY n,adS];omega
theorem GZ {z:List d9}(h:I7 z=true):∀n,I7 (Q8 z n)=true
 | 0=>rfl
 | n+1=>by show I7 (cZ z (Q8 z n))=true;rw [V8,jI,h,GZ h n];rfl
def dB (m:Mem)(v:d9)(xs:List d9):Prop:=
 (v=.nilSlice∧xs=[])∨∃id off,((∃c,v=.slice id off xs.length c∧xs.length<=c)∨v=.sliceU id off xs.length 1)∧id<m.nx∧
  (xs=[]∨∃n rows,m.get id=some (.cells 1 n rows)∧off+xs.length<=n∧∀i (h:i<xs.length),rows.get (off+i)=some [xs[i]])
def xw (m:Mem)(v:d9)(xs:List d9):Prop:=
 ∃id off c,v=.slice id off xs.length c∧xs.length<=c∧id<m.nx∧
  (xs=[]∨∃n rows,m.get id=some (.cells 1 n rows)∧off+xs.length<=n∧∀i (h:i<xs.length),rows.get (off+i)=some [xs[i]])
theorem xw.vs {m:Mem}{v:d9}{xs:List d9}(h:xw m v xs):dB m v xs:=by obtain⟨id,a,c,b,d,e,f⟩:=h;exact .inr ⟨id,a,.inl ⟨c,b,d⟩,e,f⟩
theorem dB.keep {m b:Mem}{v:d9}{xs:List d9}(a:dB m v xs)(d:m.nx<=b.nx)(h:∀id n rows,id<m.nx->m.get id=some (.cells 1 n rows)->(∃o l c,v=.slice id o l c)∨(∃o l e,v=.sliceU id o l e)->b.get id=m.get id):dB b v xs:=by rcases a with a | ⟨id,off,h1,h2,h3⟩;exact .inl a;refine .inr ⟨id,off,h1,aP h2 d,?_⟩;rcases h3 with h3 | ⟨n,rows,h4,h5,h6⟩;exact .inl h3;refine .inr ⟨n,rows,(h id n rows h2 h4 ?_).trans h4,h5,h6⟩;rcases h1 with⟨c,rfl,_⟩ | rfl;exact .inl ⟨_,_,_,rfl⟩;exact .inr ⟨_,_,_,rfl⟩
theorem dB.ext {m a:Mem}(h:Ext m a){v:d9}{xs:List d9}(c:dB m v xs):dB a v xs:=c.keep h.nx λid _ _ b _ _=>h.old id b
theorem xw.keep {m b:Mem}{v:d9}{xs:List d9}(i:xw m v xs)(g:m.nx<=b.nx)(h:∀id n rows,id<m.nx->m.get id=some (.cells 1 n rows)->(∃o l c,v=.slice id o l c)->b.get id=m.get id):xw b v xs:=by obtain⟨id,d,c,rfl,f,e,a⟩:=i;refine⟨id,d,c,rfl,f,aP e g,?_⟩;rcases a with a | ⟨n,rows,h4,h5,h6⟩;exact .inl a;exact .inr ⟨n,rows,(h id n rows e h4 ⟨_,_,_,rfl⟩).trans h4,h5,h6⟩
theorem xw.ext {m a:Mem}(h:Ext m a){v:d9}{xs:List d9}(c:xw m v xs):xw a v xs:=c.keep h.nx λid _ _ b _ _=>h.old id b
theorem dB.cells {m:Mem}{v:d9}{xs:List d9}(h:dB m v xs):v.cells=[v]:=by rcases h with⟨rfl,rfl⟩ | ⟨id,off,⟨c,rfl,_⟩ | rfl,_⟩<;>rfl
theorem dB.aY {m:Mem}{v:d9}{xs:List d9}(h:dB m v xs){a:Type}(p:d9->a)(q:a):jf v p q=q:=by rcases h with⟨rfl,rfl⟩ | ⟨id,off,⟨c,rfl,_⟩ | rfl,_⟩<;>rfl
theorem dB.A8 {m:Mem}{v:d9}{xs:List d9}(h:dB m v xs):Go.AM.A8 v=true:=by rcases h with⟨rfl,rfl⟩ | ⟨id,off,⟨c,rfl,_⟩ | rfl,_⟩<;>rfl
theorem dB.len {m:Mem}{v:d9}{xs:List d9}(h:dB m v xs):xE v (some (d9.int .i64 0)) (λ_ _ n _=>some (.int .i64 n)) (λ_ _ n _=>some (.int .i64 n))=some (.int .i64 xs.length):=by rcases h with⟨rfl,rfl⟩ | ⟨id,off,⟨c,rfl,_⟩ | rfl,_⟩<;>rfl
theorem dB.lenOf {m:Mem}{v:d9}{xs:List d9}(h:dB m v xs):Go.AM.lenOf v=some xs.length:=by rcases h with⟨rfl,rfl⟩ | ⟨id,off,⟨c,rfl,_⟩ | rfl,_⟩<;>rfl
theorem dB.at {m:Mem}{v:d9}{xs:List d9}(h:dB m v xs){i:Nat}(hi:i<xs.length):
  ∃id o,xE v none (λid off len _=>idx len (.int .i64 i) λk=>some (d9.ptr id (off+k))) (λid off len _=>idx len (.int .i64 i) λk=>some (d9.ptr id (off+k)))=some (.ptr id o)∧id<m.nx∧ld1 (m.get id) o=some xs[i]:=by
 rcases h with⟨_,rfl⟩ | ⟨id,off,h1,h2,h3⟩;simp at hi;rcases h3 with rfl | ⟨n,rows,h4,h5,h6⟩;simp at hi;refine⟨id,off+i,?_,h2,by rw [h4];exact VP (by omega) (h6 i hi)⟩;rcases h1 with⟨c,rfl,_⟩ | rfl;simp only [vw];rw [au _ _ _ hi];simp only [rM];rw [au _ _ _ hi]
theorem dB.at0 {m:Mem}{v x:d9}{xs:List d9}(h:dB m v (x::xs)):
  ∃id o,xE v none (λid off len _=>idx len (.int .i64 0) λk=>some (d9.ptr id (off+k))) (λid off len _=>idx len (.int .i64 0) λk=>some (d9.ptr id (off+k)))=some (.ptr id o)∧id<m.nx∧ld1 (m.get id) o=some x:=by
 have:=h.at (i:=0) (by simp);simpa using this
theorem He {n off:Nat}{rows:T (List d9)}{xs:List d9}(h:∀i (h:i<xs.length),rows.get (off+i)=some [xs[i]])(c:off+xs.length<=n):
  ∀(j i:Nat),i+j=xs.length->J7 1 n rows j (off+i)=some (xs.drop i):=by
 intro j;induction j with
 | zero=>intro i b;rw [zu (by omega)];rfl
 | succ j ih=>
  intro i b;have a:i<xs.length:=by omega
  show ob (cell1 1 n rows (off+i)) (λv=>ob (J7 1 n rows j (off+i+1)) λl=>some (v::l))=_;have e:cell1 1 n rows (off+i)=some xs[i]:=by
   have:=gM (rs:=1) (n:=n) (rows:=rows) (i:=off+i) (j:=0) (by omega) (by omega) (h i a)
   rwa [adG] at this
  rw [e,show off+i+1=off+(i+1) from by omega,ih (i+1) (by omega),M0 a];rfl
theorem dB.read {m:Mem}{v:d9}{xs:List d9}(h:dB m v xs):aj m 1 xs.length v=some xs:=by
 rcases h with⟨rfl,rfl⟩ | ⟨id,off,h1,h2,h3⟩;rfl;have b:Y0 m id off (Nat.mul xs.length 1)=some xs:=by
  have e:Nat.mul xs.length 1=xs.length:=adG _;rw [e];rcases h3 with rfl | ⟨n,a,h4,h5,h6⟩;rfl;cases hx:xs.length with
  | zero=>rw [abm.1 hx];rfl
  | succ k=>show aU (m.get id) (λf d a=>J7 f d a (k+1) off)=_;have:=He h6 h5 (k+1) 0 (by omega);rw [h4,dG,← acy off,this,abR]
 rcases h1 with⟨c,rfl,_⟩ | rfl<;>exact b
theorem xw.tail {m:Mem}{v x:d9}{xs:List d9}(h:xw m v (x::xs)):∃v',xw m v' xs∧(∀(y a:OF) (ls:List d9) (env:T d9) (nid:Nat),y ls env=v->a ls env=.int .i64 1->PU 1 y (some a) none ls env nid=some (v',none))∧∀i o l c,v'=.slice i o l c->∃o2 l2 c2,v=.slice i o2 l2 c2:=by
 obtain⟨id,b,c,rfl,f,g,d⟩:=h;have k:xs.length+1<=c:=by simpa using f
 refine⟨.slice id (bi (Nat.beq 1 c) b (Nat.add b (Nat.mul 1 1))) xs.length (c-1),⟨id,_,c-1,rfl,by omega,g,?_⟩,λy a ls env nid p j=>?_,λi o l q h=>by cases h;exact⟨_,_,_,rfl⟩⟩;by_cases hx:xs=[];exact .inl hx;have s:=abY.2 hx;rcases d with d | ⟨n,rows,h4,h5,h6⟩;cases d;refine .inr ⟨n,rows,h4,?_⟩;rw [ah,if_neg (by omega)];have e:Nat.add b (Nat.mul 1 1)=b+1:=rfl;rw [e];refine⟨by simp at h5;omega,λi r=>?_⟩;have:=h6 (i+1) (by simp;omega);rw [show b+1+i=b+(i+1) from by omega,this];rfl;show jL (a ls env) (λl=>K6 nid 1 (y ls env) l none)=_;rw [j,p];show K6 nid 1 (.slice id b (xs.length+1) c) 1 none=_;show bi (Nat.ble 1 (xs.length+1)) (bi (Nat.ble (xs.length+1) c) (some (d9.slice id (bi (Nat.beq 1 c) b (Nat.add b (Nat.mul 1 1))) (Nat.sub (xs.length+1) 1) (Nat.sub c 1),none)) none) none=_;rw [show Nat.ble 1 (xs.length+1)=true from qb (by omega),show Nat.ble (xs.length+1) c=true from qb k];rfl
structure Fr (lo p:Nat)(m m':Mem):Prop where
 ok:T.Ok m'.t m'.nx
 nx:m.nx<=m'.nx
 lim:m'.lim=m.lim
 old:∀i,i<lo->i≠p->m'.get i=m.get i
theorem Fr.refl {lo p:Nat}{m:Mem}(h:T.Ok m.t m.nx):Fr lo p m m:=⟨h,aA _,rfl,λ_ _ _=>rfl⟩
theorem Fr.trans {lo p:Nat}{a b c:Mem}(h:Fr lo p a b)(k:Fr lo p b c):Fr lo p a c:=
 ⟨k.ok,nM h.nx k.nx,k.lim.trans h.lim,λi d e=>(k.old i d e).trans (h.old i d e)⟩
theorem Ext.fr {lo p:Nat}{m m':Mem}(h:Ext m m')(a:lo<=m.nx):Fr lo p m m':=⟨h.ok,h.nx,h.lim,λi b _=>h.old i (by omega)⟩
theorem dh.fr {lo p:Nat}{m m':Mem}(h:dh p m m')(a:lo<=m.nx):Fr lo p m m':=⟨h.ok,h.nx,h.lim,λi c b=>h.old i (by omega) b⟩
theorem Fr.ext {lo p:Nat}{m m':Mem}(h:Fr lo p m m')(a:m.nx<=lo)(hp:lo<=p):Ext m m':=⟨h.ok,h.nx,h.lim,λi b=>h.old i (by omega) (by omega)⟩
theorem Fr.Ig {lo p:Nat}{m m':Mem}(h:Fr lo p m m')(a:m.nx<=lo):dh p m m':=⟨h.ok,h.nx,h.lim,λi c b=>h.old i (by omega) b⟩
theorem Fr.mono {lo p q:Nat}{m m':Mem}(h:Fr lo p m m')(hp:lo<=p):Fr lo q m m':=⟨h.ok,h.nx,h.lim,λi a _=>h.old i a (by omega)⟩
theorem Fr.down {lo a p:Nat}{m m':Mem}(h:Fr lo p m m')(d:a<=lo):Fr a p m m':=⟨h.ok,h.nx,h.lim,λi c b=>h.old i (by omega) b⟩
def aM (lo:Nat)(m:Mem)(v:d9)(l:List d9):Prop:=
 (v=.nilSlice∧l=[])∨∃id,lo<=id∧id<m.nx∧I7 l=true∧AX m id 1 (l.map ([·]))∧(v=.slice id 0 l.length l.length∨v=.sliceU id 0 l.length 1)
theorem aM.nil (lo:Nat)(m:Mem):aM lo m .nilSlice []:=.inl ⟨rfl,rfl⟩
theorem aM.keep {lo:Nat}{m a:Mem}{v:d9}{l:List d9}(h:aM lo m v l)(b:m.nx<=a.nx)(c:∀i,lo<=i->i<m.nx->a.get i=m.get i):aM lo a v l:=by rcases h with h | ⟨id,h1,h2,h3,h4,h5⟩;exact .inl h;exact .inr ⟨id,h1,aP h2 b,h3,h4.same (c id h1 h2),h5⟩
theorem aM.ext {lo:Nat}{m a:Mem}{v:d9}{l:List d9}(h:aM lo m v l)(e:Ext m a):aM lo a v l:=h.keep e.nx λi _ b=>e.old i b
theorem aM.Ig {lo p:Nat}{m a:Mem}{v:d9}{l:List d9}(h:aM lo m v l)(e:dh p m a)(hp:p<lo):aM lo a v l:=h.keep e.nx λi c b=>e.old i b (by omega)
theorem zI:∀l:List d9,(l.map ([·])).flatten=l
 | []=>rfl
 | x::l=>by rw [adT,azM,zI l];rfl
theorem aM.vs {lo:Nat}{m:Mem}{v:d9}{l:List d9}(h:aM lo m v l):dB m v l:=by rcases h with h | ⟨id,h1,h2,h3,h4,h5⟩;exact .inl h;obtain⟨p,g,c,t,f,b,d,j,k,e⟩:=h4;refine .inr ⟨id,0,?_,h2,.inr ⟨c,t,b,by simpa using d,λi a=>?_⟩⟩;rcases h5 with h5 | h5;exact .inl ⟨_,h5,aA _⟩;exact .inr h5;rw [W9,e i (by simpa using a)];simp
theorem aM.sl {lo:Nat}{m:Mem}{v:d9}{xs:List Int}(h:aM lo m v (ints xs)):Y9 m v xs:=by
 have a:(ints xs).length=xs.length:=by simp [ints]
 rcases h with⟨h,h'⟩ | ⟨id,h1,h2,h3,h4,h5⟩;exact .inl ⟨h,by simpa [ints] using h'⟩;obtain⟨p,j,c,t,g,d,e,k,l,f⟩:=h4;rw [a] at h5;refine .inr ⟨(id,0),?_,h2,.inr ⟨c,t,d,by simpa [ints] using e,λi b=>?_⟩⟩;rcases h5 with h5 | h5;exact .inl ⟨_,h5⟩;exact .inr ⟨_,h5⟩;rw [W9,f i (by simpa [ints] using b)];simp [ints]
theorem wY {n bytes:Nat}(h:n<=100000)(hb:1<=bytes∧bytes<=1000):big n bytes 1=true:=by show bi (Nat.ble ((2*n+2048)*bytes) 281474976710656) (bi true (Nat.ble 1 bytes) false) false=true;rw [show Nat.ble ((2*n+2048)*bytes) 281474976710656=true from qb (nM (aCm (show 2*n+2048<=202048 by omega) hb.2) (by decide)),show Nat.ble 1 bytes=true from qb hb.1];rfl
theorem oU {lo:Nat}{m:Mem}(e:m.Ok)(c:lo<=m.nx)(l:List d9)(d:I7 l=true):grown m 1 l.length l=some [⟨.sliceU m.nx 0 l.length 1,m.new (.cells 1 l.length (T.ofList (l.map ([·]))))⟩]∧aM lo (m.new (.cells 1 l.length (T.ofList (l.map ([·]))))) (.sliceU m.nx 0 l.length 1) l:=by
 have b:∀r,r∈l.map ([·])->r.length=1:=λr b=>by obtain⟨x,_,rfl⟩:=acE.1 b;rfl
 have g:=Cn (m:=m) b;have a:=OE e (rs:=1) (by omega) b;rw [adN] at g a;rw [zI] at g;exact⟨g,.inr ⟨m.nx,c,by simp,d,a,.inr rfl⟩⟩
theorem Fr.new {lo:Nat}{m:Mem}(c:m.Ok)(a:lo<=m.nx)(b:Z6):Fr lo lo m (m.new b):=((Ext.refl c).new b).fr a
theorem VT {lo bytes:Nat}{m:Mem}{v:d9}{l xs:List d9}(w:m.Ok)(K:m.lim<=lo)(d:lo<=m.nx)(h:aM lo m v l)(E:I7 xs=true)(hb:l.length+xs.length<=100000)(f:1<=bytes∧bytes<=1000):
  ∃v' m',kT m 1 bytes xs.length xs v=some [⟨v',m'⟩]∧aM lo m' v' (l++xs)∧Fr lo lo m m':=by
 by_cases hf:xs=[];subst hf;refine⟨v,m,?_,by simpa using h,Fr.refl w⟩;rcases h with⟨rfl,rfl⟩ | ⟨id,_,_,_,_,rfl | rfl⟩;rfl;show bi (Nat.ble (l.length+0) l.length) (one (.slice id 0 (l.length+0) l.length) m) _=_;rw [acy,show Nat.ble l.length l.length=true from qb (aA _)];rfl;rfl;obtain⟨k,F⟩:∃k,xs.length=k+1:=⟨xs.length-1,by have:=abY.2 hf;omega⟩;rcases h with⟨rfl,rfl⟩ | ⟨id,i1,i2,i3,ha,hv⟩;obtain⟨g,o⟩:=oU (lo:=lo) w d xs E;refine⟨_,_,?_,by rw [aaE];exact o,Fr.new w d _⟩;rw [← g];show IY m 1 bytes xs.length xs=_;rw [F];show bi (big (k+1) bytes 1) _ none=_;rw [wY (by simp at hb;omega) f];rfl;have u:I7 (l++xs)=true:=by rw [jI,i3,E];rfl
 obtain⟨p,P,c,t,H,I,L,V,G,M⟩:=ha;have D:l.length<=c:=by simpa using L
 have C:J7 1 c t l.length 0=some l:=by
  have:=jH (rs:=1) (n:=c) (rows:=t) P M L l.length 0 (by simp)
  rwa [adG,acL,abR,zI] at this
 rcases hv with rfl | rfl;obtain⟨g,o⟩:=oU (lo:=lo) w d (l++xs) u;refine⟨_,_,?_,o,Fr.new w d _⟩;rw [← g];show iI m 1 bytes xs.length xs id 0 l.length l.length=_;unfold iI;have N:Nat.ble (Nat.add l.length xs.length) l.length=false:=by rw [aaD];intro e;have:l.length+xs.length<=l.length:=LA e;omega
 have O:Y0 m id 0 (Nat.mul l.length 1)=some l:=by
  rw [show Nat.mul l.length 1=l.length from adG _];cases hll:l.length with
  | zero=>rw [abm.1 hll];rfl
  | succ j=>show aU (m.get id) (λrs R rows=>J7 rs R rows (j+1) 0)=_;rw [I,dG,← hll,C]
 rw [N,bA,show Nat.add l.length xs.length=(l++xs).length from by simp,wY (by simpa using hb) f,aH,O,I9,V8];have a:(m.set id .dead).Ok:=Mem.Ok.set w i2 _;have A:∀b,Fr lo lo m ((m.set id .dead).new b):=λb=>⟨Mem.Ok.new a _,by simp,by simp,λi J _=>by
  rw [Mem.P5 a,if_neg (by simp;omega),Mem.U6 w i2,if_neg (by omega)]⟩
 have s:Nat.ble m.lim id=true:=qb (by omega);by_cases hone:xs.length=1;obtain⟨x,rfl⟩:∃x,xs=[x]:=amD.1 hone;have B:∃c'',l.length+1<=c''∧T.Ok (t.put l.length [x]) c'':=by
  by_cases hc:l.length<H;exact⟨H,hc,T.Ok.put G _ _ hc⟩;obtain rfl:H=l.length:=by omega
  exact⟨l.length+1,aA _,T.Ok.push G _⟩
 obtain⟨c'',S,U⟩:=B;refine⟨.sliceU m.nx 0 (l.length+1) 1,(m.set id .dead).new (.cells 1 (l.length+1) (t.put l.length [x])),?_,.inr ⟨m.nx,d,by simp,u,⟨by omega,λr Q=>?_,l.length+1,t.put l.length [x],c'',?_,by simp,S,U,λi J=>?_⟩,.inr (by simp)⟩,A _⟩;show mW m 1 bytes 1 [x] id 0 l.length 1=_;show bi (Nat.beq 1 1) (bi (big (l.length+1) bytes 1) (bi (Nat.ble m.lim id) (bi (I7 [x]) (uL (m.get id) _ _) none) none) none) none=_;rw [wY (by simpa using hb) f,s,E,I];show bi (bi (Nat.beq 1 1) (bi (Nat.beq 0 0) (bi (Nat.ble l.length c) (bi (Nat.beq 1 1) (Nat.beq (len' [x]) 1) false) false) false) false) _ _=_;rw [show Nat.ble l.length c=true from qb D];rfl;obtain⟨y,_,rfl⟩:=acE.1 Q;rfl;rw [Mem.P5 a];simp;by_cases hil:i=l.length;subst hil;rw [T.aW G _ _ (by omega)];simp;have q:i<l.length:=by simp at J;omega
 rw [T.bV G _ _ _ (by omega) (ajw hil),M i (by simpa using q)];simp [adI,q];obtain⟨g,o⟩:=oU (lo:=lo) a (by simpa using d) (l++xs) u;refine⟨_,_,?_,o,A _⟩;rw [← g];show mW m 1 bytes xs.length xs id 0 l.length 1=_;unfold mW;rw [F];show bi (Nat.beq 1 1) (bi (big (l.length+(k+1)) bytes 1) (bi (Nat.ble m.lim id) (bi (I7 xs) (uL (m.get id) _ _) none) none) none) none=_;rw [wY (by omega) f,s,E,I];show bi (bi (Nat.beq 1 1) (bi (Nat.beq 0 0) (bi (Nat.ble l.length c) (bi (Nat.beq (k+1) 1) (Nat.beq (len' xs) 1) false) false) false) false) _ (ob (J7 1 c t (Nat.mul l.length 1) 0) λz=>grown (m.set id .dead) 1 (Nat.add l.length (k+1)) (cZ z xs))=_;rw [show Nat.ble l.length c=true from qb D,show Nat.beq (k+1) 1=false from aaD.2 λe=>hone (by rw [F];exact l7 e),
  show Nat.mul l.length 1=l.length from adG _,show Nat.add l.length (k+1)=(l++xs).length from by simp [F]]
 show ob (J7 1 c t l.length 0) (λz=>grown (m.set id .dead) 1 (l++xs).length (cZ z xs))=_;rw [C,I9,V8]
theorem uD {lo bytes:Nat}{m:Mem}{v x:d9}{l xs:List d9}(k:m.Ok)(a:m.lim<=lo)(c:lo<=m.nx)(h:aM lo m v l)(e:dB m x xs)(j:I7 xs=true)(hb:l.length+xs.length<=100000)(b:1<=bytes∧bytes<=1000):
  ∃v' m',(∀(s y:OF) (cf:H7) (ls:List d9) (env:T d9),s ls env=v->y ls env=x->lu 1 bytes s y cf ls env m=some [⟨v',m'⟩])∧aM lo m' v' (l++xs)∧Fr lo lo m m':=by
 obtain⟨v',m',f,g,i⟩:=VT k a c h j hb b;refine⟨v',m',λs y cf ls env o p=>?_,g,i⟩;show ob (AM.lenOf (y ls env)) (λn=>ob (aj m 1 n (y ls env)) λd=>kT m 1 bytes n d (s ls env))=_;rw [p,o,e.lenOf,I9,e.read,I9,f]
theorem FL:∀a b:List UInt8,strEq a b=decide (a=b)
 | [],[]=>rfl
 | [],_ :: _=>rfl
 | _ :: _,[]=>rfl
 | x::a,y::b=>by show bi (Nat.beq x.toNat y.toNat) (strEq a b) false=_;rw [ah,FL a b];by_cases h:x=y;subst h;rw [if_pos rfl];simp;rw [if_neg (λe=>h (amB.1 e))];simp [h]
@[simp] theorem aAB (a b:List UInt8):EZ a b=some (.bool (decide (a=b))):=by rw [← FL];rfl
@[simp] theorem aAC (a b:List UInt8):Zg a b=some (.bool (!decide (a=b))):=by rw [← FL];rfl
theorem V9 {a b:List UInt8}(h:a.length+b.length<9223372036854775808):eH a b=some (.str (a++b)):=by show bi (Nat.blt (Nat.add (len' a) (len' b)) 9223372036854775808) (some (d9.str (cZ a b))) none=_;rw [K7,K7,V8,show Nat.blt (Nat.add a.length b.length) 9223372036854775808=true from O6.mpr h];rfl
section
variable {x lo hi:OF}{ls:List d9}{env:T d9}{s:List UInt8}{l h:Nat}
theorem MJ (e:x ls env=.str s)(d:lo ls env=.int .i64 (l:Int))(c:hi ls env=.int .i64 (h:Int))(a:l<=h)(b:h<=s.length):nY x (some lo) (some hi) ls env=some (.str ((s.drop l).take (h-l))):=by
 show xg (x ls env) (λs=>jL (lo ls env) λl=>jL (hi ls env) λh=>bi (Nat.ble l h) (bi (Nat.ble h (len' s)) (ob (takeN (Nat.sub h l) (gQ l s)) λr=>some (d9.str r)) none) none)=_;rw [e,Io,d,lN,jB,c,lN,jB,show Nat.ble l h=true from qb a,K7,show Nat.ble h s.length=true from qb b,aH,aH,eT,
  show Nat.sub h l=h-l from rfl,iw _ _ (by simp;omega)];rfl
theorem Rh (c:x ls env=.str s)(b:hi ls env=.int .i64 (h:Int))(a:h<=s.length):nY x none (some hi) ls env=some (.str (s.take h)):=by
 show xg (x ls env) (λs=>jL (hi ls env) λh=>bi (Nat.ble 0 h) (bi (Nat.ble h (len' s)) (ob (takeN (Nat.sub h 0) (gQ 0 s)) λr=>some (d9.str r)) none) none)=_;rw [c,Io,b,lN,jB,show Nat.ble 0 h=true from qb (adH _),K7,show Nat.ble h s.length=true from qb a,aH,aH,eT,
  show Nat.sub h 0=h from rfl,abR,iw _ _ a];rfl
theorem JX (c:x ls env=.str s)(b:lo ls env=.int .i64 (l:Int))(a:l<=s.length):nY x (some lo) none ls env=some (.str (s.drop l)):=by
 show xg (x ls env) (λs=>jL (lo ls env) λl=>bi (Nat.ble l (len' s)) (bi (Nat.ble (len' s) (len' s)) (ob (takeN (Nat.sub (len' s) l) (gQ l s)) λr=>some (d9.str r)) none) none)=_;rw [c,Io,b,lN,jB,K7,show Nat.ble l s.length=true from qb a,show Nat.ble s.length s.length=true from qb (aA _),aH,aH,eT,
  show Nat.sub s.length l=s.length-l from rfl,iw _ _ (by simp),aaF (by simp)];rfl
theorem zJ (d:x ls env=.str s)(c:lo ls env=.int .i64 (l:Int))(a:l<s.length):uK x lo ls env=some (.int .u8 (s[l].toNat:Nat)):=by show xg (x ls env) (λs=>jL (lo ls env) λk=>ob (vJ k s) λb=>some (d9.int .u8 b.toNat))=_;rw [d,Io,c,lN,jB,ng,cB a];rfl
theorem ady {b:UInt8}{t:List UInt8}(c:x ls env=.str (b::t))(a:lo ls env=.int .i64 0):uK x lo ls env=some (.int .u8 (b.toNat:Nat)):=by have:=zJ (l:=0) c (by simpa using a) (by simp);simpa using this
end
def strs (l:List (List UInt8)):List d9:=l.map d9.str
theorem G8 (l:List (List UInt8)):(strs l).length=l.length:=by simp [strs]
theorem vC:∀l:List (List UInt8),I7 (strs l)=true
 | []=>rfl
 | _::l=>by show bi true (I7 (strs l)) false=true;rw [vC l];rfl
theorem Ri:∀l:List Int,I7 (ints l)=true
 | []=>rfl
 | _::l=>by show bi true (I7 (ints l)) false=true;rw [Ri l];rfl
theorem vD (a b:List (List UInt8)):strs (a++b)=strs a++strs b:=by simp [strs]
theorem zL (a b:List Int):ints (a++b)=ints a++ints b:=by simp [ints]
def qw (m:Mem)(rs:Nat)(v:d9)(l:List (List d9)):Prop:=
 (v=.nilSlice∧l=[])∨∃id o,((∃c,v=.slice id (o*rs) l.length c∧l.length<=c)∨v=.sliceU id (o*rs) l.length rs)∧id<m.nx∧
  (l=[]∨∃n rows,m.get id=some (.cells rs n rows)∧o+l.length<=n∧(∀r,r∈l->r.length=rs)∧∀i (h:i<l.length),rows.get (o+i)=some l[i])
section
variable {m m':Mem}{rs:Nat}{v:d9}{l:List (List d9)}
theorem qw.keep (a:qw m rs v l)(b:m.nx<=m'.nx)(h:∀id n rows,id<m.nx->m.get id=some (.cells rs n rows)->(∃o l c,v=.slice id o l c)∨(∃o l e,v=.sliceU id o l e)->m'.get id=m.get id):qw m' rs v l:=by rcases a with a | ⟨id,o,h1,h2,h3⟩;exact .inl a;refine .inr ⟨id,o,h1,aP h2 b,?_⟩;rcases h3 with h3 | ⟨n,rows,h4,h5⟩;exact .inl h3;refine .inr ⟨n,rows,(h id n rows h2 h4 ?_).trans h4,h5⟩;rcases h1 with⟨c,rfl,_⟩ | rfl;exact .inl ⟨_,_,_,rfl⟩;exact .inr ⟨_,_,_,rfl⟩
theorem qw.ext (h:Ext m m')(b:qw m rs v l):qw m' rs v l:=b.keep h.nx λid _ _ a _ _=>h.old id a
theorem qw.cells (h:qw m rs v l):v.cells=[v]:=by rcases h with⟨rfl,rfl⟩ | ⟨id,off,⟨c,rfl,_⟩ | rfl,_⟩<;>rfl
theorem qw.aY (h:qw m rs v l){a:Type}(p:d9->a)(q:a):jf v p q=q:=by rcases h with⟨rfl,rfl⟩ | ⟨id,off,⟨c,rfl,_⟩ | rfl,_⟩<;>rfl
theorem qw.A8 (h:qw m rs v l):Go.AM.A8 v=true:=by rcases h with⟨rfl,rfl⟩ | ⟨id,off,⟨c,rfl,_⟩ | rfl,_⟩<;>rfl
theorem qw.len (h:qw m rs v l):xE v (some (d9.int .i64 0)) (λ_ _ n _=>some (.int .i64 n)) (λ_ _ n _=>some (.int .i64 n))=some (.int .i64 l.length):=by rcases h with⟨rfl,rfl⟩ | ⟨id,off,⟨c,rfl,_⟩ | rfl,_⟩<;>rfl
theorem qw.lenOf (h:qw m rs v l):Go.AM.lenOf v=some l.length:=by rcases h with⟨rfl,rfl⟩ | ⟨id,off,⟨c,rfl,_⟩ | rfl,_⟩<;>rfl
theorem XY {n i rs:Nat}{rows:T (List d9)}{r:List d9}(hi:i<n)(h:rows.get i=some r)(d:r.length=rs){j k:Nat}(b:j<rs)(c:j+k<=rs):YR (some (.cells rs n rows)) (i*rs+j) k=some (.agg ((r.drop j).take k)):=by show aU (some (Z6.cells rs n rows)) (λa n rows=>ob (qc a n rows (i*rs+j) k) λl=>some (d9.agg l))=_;rw [dG,wo b hi h d c,I9]
theorem qw.at (h:qw m rs v l){i:Nat}(hi:i<l.length):
  ∃id o,xE v none (λid off len _=>idx len (.int .i64 i) λk=>some (d9.ptr id (off+k*rs))) (λid off len _=>idx len (.int .i64 i) λk=>some (d9.ptr id (off+k*rs)))=some (.ptr id o)∧id<m.nx∧
   (l[i]).length=rs∧(∀j k,j<rs->j+k<=rs->YR (m.get id) (o+j) k=some (.agg (((l[i]).drop j).take k)))∧∀j,j<rs->ld1 (m.get id) (o+j)=(l[i])[j]?:=by
 rcases h with⟨_,rfl⟩ | ⟨id,off,h1,h2,h3⟩;simp at hi;rcases h3 with rfl | ⟨n,a,h4,h5,h7,h6⟩;simp at hi;have b:=h7 l[i] (M8 hi);refine⟨id,off*rs+i*rs,?_,h2,b,λj k d f=>?_,λj d=>?_⟩;rcases h1 with⟨c,rfl,_⟩ | rfl;simp only [vw];rw [au _ _ _ hi];simp only [rM];rw [au _ _ _ hi];rw [← adS,h4];exact XY (by omega) (h6 i hi) b d f;rw [← adS,h4];show aU (some (Z6.cells rs n a)) (λe n a=>cell1 e n a ((off+i)*rs+j))=_;rw [dG,gM d (by omega) (h6 i hi)]
end
def jD (lo rs:Nat)(m:Mem)(v:d9)(l:List (List d9)):Prop:=
 (v=.nilSlice∧l=[])∨∃id,lo<=id∧id<m.nx∧I7 l.flatten=true∧AX m id rs l∧l≠[]∧(v=.slice id 0 l.length l.length∨v=.sliceU id 0 l.length rs)
section
variable {m m':Mem}{lo rs:Nat}{v:d9}{l:List (List d9)}
theorem jD.nil (lo rs:Nat)(m:Mem):jD lo rs m .nilSlice []:=.inl ⟨rfl,rfl⟩
theorem jD.keep (h:jD lo rs m v l)(a:m.nx<=m'.nx)(b:∀i,lo<=i->i<m.nx->m'.get i=m.get i):jD lo rs m' v l:=by rcases h with h | ⟨id,h1,h2,h3,h4,h5⟩;exact .inl h;exact .inr ⟨id,h1,aP h2 a,h3,h4.same (b id h1 h2),h5⟩
theorem jD.ext (h:jD lo rs m v l)(e:Ext m m'):jD lo rs m' v l:=h.keep e.nx λi _ a=>e.old i a
theorem jD.lt (h:jD lo rs m v l){i o n e:Nat}(a:v=.sliceU i o n e):lo<=i∧i<m.nx:=by rcases h with⟨rfl,_⟩ | ⟨id,h1,h2,_,_,_,rfl | rfl⟩;cases a;cases a;cases a;exact⟨h1,h2⟩
theorem jD.down {a:Nat}(h:jD lo rs m v l)(b:a<=lo):jD a rs m v l:=by rcases h with h | ⟨id,h1,h2⟩;exact .inl h;exact .inr ⟨id,nM b h1,h2⟩
theorem jD.slice (h:jD lo rs m v l):qw m rs v l:=by rcases h with h | ⟨id,h1,h2,h3,h4,_,h5⟩;exact .inl h;obtain⟨p,b,c,t,g,d,e,j,k,f⟩:=h4;refine .inr ⟨id,0,?_,h2,.inr ⟨c,t,d,by simpa using e,b,λi a=>?_⟩⟩;rw [acL];rcases h5 with h5 | h5;exact .inl ⟨_,h5,aA _⟩;exact .inr h5;simp only [W9];exact f i a
theorem aae {n bytes es:Nat}(h:n<=100000)(hb:1<=bytes∧bytes<=1000)(a:1<=es):big n bytes es=true:=by show bi (Nat.ble ((2*n+2048)*bytes) 281474976710656) (bi (Nat.ble 1 es) (Nat.ble 1 bytes) false) false=true;rw [show Nat.ble ((2*n+2048)*bytes) 281474976710656=true from qb (nM (aCm (show 2*n+2048<=202048 by omega) hb.2) (by decide)),show Nat.ble 1 bytes=true from qb hb.1,show Nat.ble 1 es=true from qb a];rfl
theorem Rj (e:m.Ok)(a:lo<=m.nx)(hp:0<rs)(c:∀r,r∈l->r.length=rs)(d:I7 l.flatten=true)(b:l≠[]):grown m rs l.length l.flatten=some [⟨.sliceU m.nx 0 l.length rs,m.new (.cells rs l.length (T.ofList l))⟩]∧jD lo rs (m.new (.cells rs l.length (T.ofList l))) (.sliceU m.nx 0 l.length rs) l:=
 ⟨Cn (m:=m) c,.inr ⟨m.nx,a,by simp,d,OE e hp c,b,.inr rfl⟩⟩
theorem aaf {bytes:Nat}{r:List d9}(f:m.Ok)(N:m.lim<=lo)(w:lo<=m.nx)(hp:0<rs)(h:jD lo rs m v l)(I:r.length=rs)(F:I7 r=true)(hb:l.length+1<=100000)(k:1<=bytes∧bytes<=1000):
  ∃v' m',kT m rs bytes 1 r v=some [⟨v',m'⟩]∧jD m.nx rs m' v' (l ++ [r])∧Fr lo lo m m'∧(∀i,i<m.nx->(∀o n e,v≠.sliceU i o n e)->m'.get i=m.get i):=by
 have B:∀b,∀i,i<m.nx->(∀o n e,v≠.sliceU i o n e)->(m.new b).get i=m.get i:=λb i C _=>by rw [Mem.P5 f,if_neg (by omega)]
 have q:[r].flatten=r:=by simp
 rcases h with⟨rfl,rfl⟩ | ⟨id,i1,i2,i3,ha,hne,K⟩;obtain⟨g,o⟩:=Rj (lo:=m.nx) (rs:=rs) (l:=[r]) f (aA _) hp (by simpa using I) (by rw [q];exact F) (by simp);refine⟨_,_,?_,by rw [aaE];exact o,Fr.new f w _,B _⟩;rw [← g,q];show bi (big 1 bytes rs) _ none=_;rw [aae (by simp) k hp];rfl;have s:I7 (l ++ [r]).flatten=true:=by rw [List.flatten_append,q,jI,i3,F];rfl
 have y:∀x,x∈l ++ [r]->x.length=rs:=λx V=>by rcases O5.1 V with h | h;exact ha.len x h;rw [nA.1 h];exact I
 obtain⟨p,U,c,t,E,O,P,Z,D,Q⟩:=ha;have z:0<l.length:=abY.2 hne;have J:J7 rs c t (l.length*rs) 0=some l.flatten:=by
  have:=jH (rs:=rs) (n:=c) (rows:=t) U Q P l.length 0 (by simp)
  rwa [acL,abR] at this
 rcases K with rfl | rfl;obtain⟨g,o⟩:=Rj (lo:=m.nx) (rs:=rs) (l:=l ++ [r]) f (aA _) hp y s (by simp);refine⟨_,_,?_,o,Fr.new f w _,B _⟩;rw [← g];show iI m rs bytes 1 r id 0 l.length l.length=_;unfold iI;have R:Nat.ble (Nat.add l.length 1) l.length=false:=by rw [aaD];intro e;have:l.length+1<=l.length:=LA e;omega
 have S:Y0 m id 0 (Nat.mul l.length rs)=some l.flatten:=by have e:Nat.mul l.length rs=l.length*rs:=rfl;rw [e];obtain⟨j,M⟩:∃j,l.length*rs=j+1:=⟨l.length*rs-1,by have:=Nat.mul_pos z hp;omega⟩;rw [M];show aU (m.get id) (λL W rows=>J7 L W rows (j+1) 0)=_;rw [O,dG,← M,J]
 rw [R,bA,show Nat.add l.length 1=(l ++ [r]).length from by simp,aae (by simpa using hb) k hp,aH,S,I9,V8];simp;have a:(m.set id .dead).Ok:=Mem.Ok.set f i2 _;have G:∀b,Fr lo lo m ((m.set id .dead).new b):=λb=>⟨Mem.Ok.new a _,by simp,by simp,λi C _=>by
  rw [Mem.P5 a,if_neg (by simp;omega),Mem.U6 f i2,if_neg (by omega)]⟩
 have u:Nat.ble m.lim id=true:=qb (by omega);have A:∃c'',l.length+1<=c''∧T.Ok (t.put l.length r) c'':=by
  by_cases hc:l.length<E;exact⟨E,hc,T.Ok.put D _ _ hc⟩;obtain rfl:E=l.length:=by omega
  exact⟨l.length+1,aA _,T.Ok.push D _⟩
 obtain⟨c'',X,Y⟩:=A;refine⟨.sliceU m.nx 0 (l.length+1) rs,(m.set id .dead).new (.cells rs (l.length+1) (t.put l.length r)),?_,.inr ⟨m.nx,aA _,by simp,s,⟨hp,y,l.length+1,t.put l.length r,c'',?_,by simp,X,Y,λi C=>?_⟩,by simp,.inr (by simp)⟩,G _,λi C K=>?_⟩;show mW m rs bytes 1 r id 0 l.length rs=_;show bi (Nat.beq rs rs) (bi (big (l.length+1) bytes rs) (bi (Nat.ble m.lim id) (bi (I7 r) (uL (m.get id) _ _) none) none) none) none=_;rw [aae (by simpa using hb) k hp,u,F,O,show Nat.beq rs rs=true from acK rs];show bi (bi (Nat.beq rs rs) (bi (Nat.beq 0 0) (bi (Nat.ble l.length c) (bi (Nat.beq 1 1) (Nat.beq (len' r) rs) false) false) false) false) _ _=_;rw [show Nat.ble l.length c=true from qb P,K7,I,show Nat.beq rs rs=true from acK rs];rfl;rw [Mem.P5 a];simp;by_cases hil:i=l.length;subst hil;rw [T.aW D _ _ (by omega)];simp;have d:i<l.length:=by simp at C;omega
 rw [T.bV D _ _ _ (by omega) (ajw hil),Q i d];simp [adI,d];have H:i≠id:=by rintro rfl;exact K _ _ _ rfl
 rw [Mem.P5 a,if_neg (by simp;omega),Mem.U6 f i2,if_neg H]
theorem OG {bytes:Nat}{x:d9}{r:List d9}(F:m.Ok)(a:m.lim<=lo)(g:lo<=m.nx)(hp:0<rs)(h:jD lo rs m v l)(w:qw m rs x [r])(u:r.length=rs)(D:I7 r=true)(hb:l.length+1<=100000)(b:1<=bytes∧bytes<=1000):
  ∃v' m',(∀(s y:OF) (cf:H7) (ls:List d9) (env:T d9),s ls env=v->y ls env=x->lu rs bytes s y cf ls env m=some [⟨v',m'⟩])∧jD m.nx rs m' v' (l ++ [r])∧Fr lo lo m m'∧(∀i,i<m.nx->(∀o n e,v≠.sliceU i o n e)->m'.get i=m.get i):=by
 obtain⟨v',m',z,A,B,C⟩:=aaf F a g hp h u D hb b;refine⟨v',m',λs y cf ls env G H=>?_,A,B,C⟩;have k:aj m rs 1 x=some r:=by
  rcases w with⟨_,h⟩ | ⟨id,o,q1,q2,q3⟩;cases h;rcases q3 with h | ⟨n,rows,e1,e2,e3,e4⟩;cases h;have p:Y0 m id (o*rs) (Nat.mul 1 rs)=some r:=by
   have e:Nat.mul 1 rs=1*rs:=rfl;have f:=Ed (rs:=rs) (n:=n) (rows:=rows) (i:=o) (by simp at e2;omega) (by simpa using e4 0 (by simp)) u;obtain⟨j,E⟩:∃j,1*rs=j+1:=⟨rs-1,by omega⟩;have d:rs=j+1:=by omega
   rw [e,E];show aU (m.get id) (λt I rows=>J7 t I rows (j+1) (o*rs))=_;rw [e1,dG,← d];have:=f rs 0 (by omega)
   rwa [acy,abR] at this
  rcases q1 with⟨c,rfl,_⟩ | rfl<;>exact p
 show ob (AM.lenOf (y ls env)) (λn=>ob (aj m rs n (y ls env)) λq=>kT m rs bytes n q (s ls env))=_;rw [H,G,w.lenOf,I9];show ob (aj m rs 1 x) _=_;rw [k,I9];exact z
theorem aag (b:m.Ok)(r:List d9)(hp:0<r.length):qw (m.new (j5 r)) r.length (.slice m.nx 0 1 1) [r]:=
 .inr ⟨m.nx,0,.inl ⟨1,by simp,by simp⟩,by simp,.inr ⟨1,T.ofList [r],by rw [Mem.P5 b,if_pos rfl];simp [j5];rfl,by simp,by simp,λi a=>by
  obtain rfl:i=0:=by simpa using a
  rw [T.bN];rfl⟩⟩
end
open Go Go.RowKit
section
variable {P:Program}{G:Mem}{ι:N9}{m:Mem}{w w':World}
theorem Co (h:RM P G ι m w.heap)(hb:Below w.heap.size w w'):Step P G ι m w ι m w':=by refine⟨⟨h.ok,λi x a=>?_,λi x o a d=>?_,h.glim,h.limn,h.gle,h.base,h.ghas,h.glob,h.spot,h.Qh λk p _=>hb.block k p⟩,λ_ _=>rfl,λ_ h=>h,aA _,rfl,λ_ _=>rfl,hb.size,λb f _=>hb.block b f,λ_ h=>.inl h,hb.os,hb.output,hb.tape⟩;exact (h.blk i x a).mono (n:=m.nm ι) (λ_ _=>rfl) (Mem.cK (λ_ h=>h) λ_ _=>rfl) λd=>hb.block _ (gX (h.blk i x a) d);have j:=h.own i x o a d;refine⟨j.alone,λc e l g=>?_⟩;rw [hb.block _ (gX (h.blk i x a) d)] at g;exact j.free c e l g
theorem aah (h:RM P G ι m w.heap)(hb:Below w.heap.size w w')(b:Z6)(l:Loc)(A:jT b=false)(z:w.heap.size<=l.b)
  (n:gW P (ι.upd m.nx l) ((m.new b).nm (ι.upd m.nx l)) w'.heap l b)
  (f:bG b=true->∀c e fz,w'.heap[l.b]?=some (.cells c e fz)->∀k,k<c.size->¬ (fz.1<=k∧k<fz.2)) (g:bG b=true->l.spot=none):
  Step P G ι m w (ι.upd m.nx l) (m.new b) w':=by
 have t:=Co h hb;have B:=t.trans (JJ t.rm);have d:=Mem.P5 h.ok .void;have a:(m.new .void).get m.nx=some .void:=by rw [d,if_pos rfl]
 have C:=B.rename (ι2:=ι.upd m.nx l) λi ⟨x,hx,hxv⟩=>ι.upd_ne l λe=>by subst e;rw [a] at hx;cases hx;cases hxv
 have e:(m.new .void).set m.nx b=m.new b:=Mem.VQ h.ok .void b;have u:=C.add (id:=m.nx) (b:=b) a h.limn ⟨by rw [e,ι.aJ];exact n,A,λo j y r s p=>?_,λo c v fz q=>?_,λo=>by rw [ι.aJ];exact g o⟩ (λ_=>by rw [ι.aJ];exact z);rw [e] at u;exact u;rw [d,if_neg r] at s;rw [ι.aJ,ι.upd_ne l r];have:=gX (h.blk j y s) p;omega;rw [ι.aJ] at q;exact f o c v fz q
end
section
variable {P:Program}{G:Mem}
theorem vE {f:FuncId}{args:List d9}{v:d9}(a:Bh (layAll [] G).nx ⟨v,P7 G []⟩=some ⟨v,[]⟩)(c:∀n:Nm,v.lt n)(h:∀ι ι',u7 ι v=u7 ι' v)
  (g:∀(ι:N9) (w:World),RM P G ι (P7 G []) w.heap->Calls P f (C8 ι args).toArray w λe w'=>e=.returned (u7 ι v)∧Below w.heap.size w w'):lF P G f args [] ⟨v,[]⟩:=by
 intro ι w d b;refine callsIn_wide.2 ((g ι w d).mono ?_);rintro e w' ⟨rfl,hb⟩;exact⟨ι,⟨v,P7 G []⟩,Co d hb,c _,rfl,a⟩
theorem OH {f:FuncId}{args:List d9}{v:d9}{nb:NB}(a:Bh (layAll [] G).nx ⟨v,(P7 G []).new (eO nb)⟩=some ⟨v,[nb]⟩)
  (i:∀(ι:N9) (w:World),RM P G ι (P7 G []) w.heap->Calls P f (C8 ι args).toArray w λe w'=>∃l:Loc,e=.returned (u7 (ι.upd G.nx l) v)∧Below w.heap.size w w'∧w.heap.size<=l.b∧
   v.lt (((P7 G []).new (eO nb)).nm (ι.upd G.nx l))∧gW P (ι.upd G.nx l) (((P7 G []).new (eO nb)).nm (ι.upd G.nx l)) w'.heap l (eO nb)∧
   (bG (eO nb)=true->(∀c e fz,w'.heap[l.b]?=some (.cells c e fz)->∀k,k<c.size->¬ (fz.1<=k∧k<fz.2))∧l.spot=none)):lF P G f args [] ⟨v,[nb]⟩:=by
 intro ι w h d;refine callsIn_wide.2 ((i ι w h).mono ?_);rintro e w' ⟨l,rfl,hb,hA,hlt,hblk,hfs⟩;have j:(P7 G []).nx=G.nx:=rfl;exact⟨ι.upd G.nx l,⟨v,(P7 G []).new (eO nb)⟩,aah h hb (eO nb) l (Ci nb) hA hblk (λg=>(hfs g).1) (λg=>(hfs g).2),hlt,rfl,a⟩
end
end Go.AM
namespace Go.AM
open Go Go.RowKit
noncomputable section
theorem TU (rs:Nat)(rows:List (List d9)):AU (.cells rs (len' rows) (T.ofList rows))=some (.cells rs rows):=by show ob ((T.ofList rows).slice (len' rows) 0) (λl=>some (NB.cells rs l))=_;rw [K7,DY];rfl
theorem TV (m:Mem)(lo n:Nat)(a:List (Nat×NB)):reach m lo (n+1) [] a=some a.reverse:=rfl
theorem FM {m:Mem}{lo i:Nat}{b:Z6}{nb:NB}(h:m.get i=some b)(hb:AU b=some nb)(hi:PZ lo nb=[])(n:Nat):reach m lo (n+2) [i] []=some [(i,nb)]:=by show bi (LQ i []) (reach m lo (n+1) [] []) (ob (m.get i) λb=>ob (AU b) λnb=>reach m lo (n+1) (PZ lo nb ++ []) [(i,nb)])=_;rw [h,I9,hb,I9,hi];rfl
theorem JY (lo:Nat):∀ws:List (List UInt8),PZ lo (.cells 1 (ws.map λw=>[d9.str w]))=[]
 | []=>rfl
 | w::ws=>by show sD lo [d9.str w]++PZ lo (.cells 1 (ws.map λw=>[d9.str w]))=[];rw [JY lo ws];rfl
theorem zM (r:Nat->Option Nat):∀ws:List (List UInt8),nT r (ws.map λw=>[d9.str w])=some (ws.map λw=>[d9.str w])
 | []=>rfl
 | w::ws=>by show ob (pJ r [d9.str w]) (λx=>ob (nT r (ws.map λw=>[d9.str w])) λy=>some (x::y))=_;rw [zM r ws];rfl
theorem MK (lo:Nat):uh lo [lo] lo=some lo:=by show bi (Nat.ble lo lo) (bi (Nat.beq lo lo) (some lo) none) _=_;rw [show Nat.ble lo lo=true from qb (aA _),show Nat.beq lo lo=true from acK lo];rfl
section
variable {G:Mem}
theorem aai (b:T.Ok G.t G.nx)(ws:List (List UInt8))(n c:Nat):Bh (layAll [] G).nx ⟨.slice G.nx 0 n c,(P7 G []).new (eO (.cells 1 (ws.map λw=>[d9.str w])))⟩=some ⟨.slice G.nx 0 n c,[.cells 1 (ws.map λw=>[d9.str w])]⟩:=by
 have e:((P7 G []).new (eO (.cells 1 (ws.map λw=>[d9.str w])))).get G.nx=some (.cells 1 (len' (ws.map λw=>[d9.str w])) (T.ofList (ws.map λw=>[d9.str w]))):=by rw [Mem.P5 (m:=P7 G []) b];exact if_pos rfl
 have g:=FM (lo:=G.nx) e (TU 1 _) (JY G.nx ws) 99998;have f:sD G.nx [d9.slice G.nx 0 n c]=[G.nx]:=by show bi (Nat.ble G.nx G.nx) [G.nx] [] ++ []=_;rw [show Nat.ble G.nx G.nx=true from qb (aA _)];rfl
 have d:kJ G.nx [d9.slice G.nx 0 n c] ((P7 G []).new (eO (.cells 1 (ws.map λw=>[d9.str w]))))=some ⟨[G.nx],[.slice G.nx 0 n c],[.cells 1 (ws.map λw=>[d9.str w])]⟩:=by show ob (reach _ G.nx (99998+2) (sD G.nx _) []) _=_;rw [f,g];show ob (ob (ob (uh G.nx [G.nx] G.nx) λj=>some (d9.slice j 0 n c)) λx=>ob (some []) λy=>some (x::y)) (λh=>ob (ob (ob (nT (uh G.nx [G.nx]) (ws.map λw=>[d9.str w])) λx=>some (NB.cells 1 x)) λx=>ob (some []) λy=>some (x::y)) λa=>some (⟨[G.nx],h,a⟩:CO))=_;rw [MK,zM];rfl
 show ob (kJ G.nx [d9.slice G.nx 0 n c] _) _=_;rw [d];rfl
theorem Rk (b:T.Ok G.t G.nx)(k:Int)(t:TypeId):Bh (layAll [] G).nx ⟨.tuple [.int .i64 k,.iface t (.ptr G.nx 0)],(P7 G []).new .dead⟩=some ⟨.tuple [.int .i64 k,.iface t (.ptr G.nx 0)],[.dead]⟩:=by
 have d:((P7 G []).new .dead).get G.nx=some .dead:=by rw [Mem.P5 (m:=P7 G []) b];exact if_pos rfl
 have f:=FM (lo:=G.nx) d (nb:=.dead) rfl rfl 99998;have e:sD G.nx [d9.tuple [.int .i64 k,.iface t (.ptr G.nx 0)]]=[G.nx]:=by show ([]++(bi (Nat.ble G.nx G.nx) [G.nx] [] ++ [])) ++ []=_;rw [show Nat.ble G.nx G.nx=true from qb (aA _)];rfl
 have c:kJ G.nx [d9.tuple [.int .i64 k,.iface t (.ptr G.nx 0)]] ((P7 G []).new .dead)=some ⟨[G.nx],[.tuple [.int .i64 k,.iface t (.ptr G.nx 0)]],[.dead]⟩:=by show ob (reach _ G.nx (99998+2) (sD G.nx _) []) _=_;rw [e,f];show ob (ob (ob (ob (some (d9.int .i64 k)) λx=>ob (ob (ob (ob (uh G.nx [G.nx] G.nx) λj=>some (d9.ptr j 0)) λx=>some (d9.iface t x)) λx=>ob (some []) λy=>some (x::y)) λy=>some (x::y)) λx=>some (d9.tuple x)) λx=>ob (some []) λy=>some (x::y)) (λg=>ob (some [NB.dead]) λa=>some (⟨[G.nx],g,a⟩:CO))=_;rw [MK];rfl
 show ob (kJ G.nx _ _) _=_;rw [c];rfl
end
theorem wB {lo:Nat}{v:d9}(m:Mem)(b:sD lo [v]=[])(c:∀r,pJ r [v]=some [v]):kJ lo [v] m=some ⟨[],[v],[]⟩:=by show ob (reach m lo (99999+1) (sD lo [v]) []) _=_;rw [b,TV];show ob (pJ (uh lo []) [v]) (λd=>ob (some []) λa=>some (⟨[],d,a⟩:CO))=_;rw [c];rfl
theorem tH {K:Known}{cf:H7}{b:Nat}{f:FuncId}{sf:L6}{args:List d9}{m:Mem}{c:CO}{a:EK}(g:kJ K.base.nx args m=some c)(d:K.sum f c.vs c.bs=some a):
  xO K cf b f sf args m=ob (iJ (iK K.base.nx c.ids m.nx) a.v) λv=>ob (wS (iK K.base.nx c.ids m.nx) a.bs) λbs=>one v (layAll bs m):=by
 show ob (kJ K.base.nx args m) (λc=>ob (Gu K cf b f sf c.vs c.bs) λa=>ob (iJ (iK K.base.nx c.ids m.nx) a.v) λv=>ob (wS (iK K.base.nx c.ids m.nx) a.bs) λbs=>one v (layAll bs m))=_;rw [g,I9];have e:Gu K cf b f sf c.vs c.bs=some a:=by unfold Gu;rw [d]
 rw [e,I9]
theorem JZ (g next:Nat):iK g [] next g=some next:=by show bi (Nat.blt g g) (some g) (bi (Nat.blt (g-g) 0) (vJ (g-g) []) (some (next+(g-g-0))))=_;rw [show Nat.blt g g=false from aaD.2 λe=>absurd (O6.mp e) (alT _),aCK];rfl
open Go
def iD (sep:List UInt8)(l:List (List UInt8)):List UInt8:=List.rec [] (λs t ih=>List.rec s (λ_ _ _=>cZ s (cZ sep ih)) t) l
def wC (l:List (List d9)):Option (List (List UInt8)):=List.rec (some []) (λr _ ih=>match r with
 | [.str s]=>ob ih λt=>some (s::t)
 | _=>none) l
def AY (c:UInt8)(s:List UInt8):List (List UInt8):=
 List.rec [[]] (λb _ ih=>bi (Nat.beq b.toNat c.toNat) ([]::ih) (List.rec [[b]] (λh t _=>(b::h)::t) ih)) s
def oI (c:UInt8)(s:List UInt8):Int:=List.rec (Int.negSucc 0) (λb _ ih=>bi (Nat.beq b.toNat c.toNat) 0 (bi (uJ ih (Int.negSucc 0)) (Int.negSucc 0) (ih+1))) s
def nD (c:UInt8)(s:List UInt8):Nat:=List.rec 0 (λb _ ih=>bi (Nat.beq b.toNat c.toNat) (Nat.succ ih) ih) s
def adz (fi fn fj nx:Nat)(f:FuncId)(args:List d9)(bs:List NB):Option EK:=
 bi (Nat.beq f fi) (match args,bs with
  | [.str s,.str [c]],[]=>bi (Nat.blt (len' s) 1000000) (some ⟨.int .i64 (oI c s),[]⟩) none
  | _,_=>none)
 (bi (Nat.beq f fn) (match args,bs with
  | [.str s,.str [c]],[]=>bi (Nat.blt (len' s) 1000000) (some ⟨.int .i64 (.ofNat (nD c s)),[]⟩) none
  | _,_=>none)
 (bi (Nat.beq f fj) (match args,bs with
  | [v,.str sep],[.cells 1 rows]=>xE v none
    (λid off n c=>bi (Nat.beq id nx) (bi (Nat.ble n c) (bi (Nat.blt n 1000000) (ob (takeN n (gQ off rows)) λl=>ob (wC l) λws=>bi (Nat.blt (len' (iD sep ws)) 1000000) (some ⟨.str (iD sep ws),[]⟩) none) none) none) none)
    (λid off n _=>bi (Nat.beq id nx) (bi (Nat.blt n 1000000) (ob (takeN n (gQ off rows)) λl=>ob (wC l) λws=>bi (Nat.blt (len' (iD sep ws)) 1000000) (some ⟨.str (iD sep ws),[]⟩) none) none) none)
  | [.nilSlice,.str _],[]=>some ⟨.str [],[]⟩
  | _,_=>none) none))
theorem Ee {α:Type}(t:T α):∀(l:List α) (i:Nat),(∀j,j<l.length->t.get (i+j)=l[j]?)->t.slice l.length i=some l
 | [],i,h=>rfl
 | x::l,i,h=>by
  rw [acA,T.BP];have h0:=h 0 (by simp);rw [acy] at h0;rw [h0,azJ,I9,Ee t l (i+1) (λj hj=>by
   have:=h (j+1) (by simp;omega);rw [show i+1+j=i+(j+1) from by omega,this,adJ])]
  rfl
def lY (lo:Nat)(m:Mem)(v:d9)(l:List (List UInt8)):Prop:=
 (v=.nilSlice∧l=[])∨∃id t c,lo<=id∧id<m.nx∧l≠[]∧v=.sliceU id 0 l.length 1∧m.get id=some (.cells 1 l.length t)∧T.Ok t c∧l.length<=c∧∀i (h:i<l.length),t.get i=some [.str l[i]]
section
variable {lo:Nat}{m m':Mem}{v:d9}{l:List (List UInt8)}
theorem lY.keep (h:lY lo m v l)(a:m.nx<=m'.nx)(b:∀i,lo<=i->i<m.nx->m'.get i=m.get i):lY lo m' v l:=by rcases h with h | ⟨id,t,c,h1,h2,h3,h4,h5,h6⟩;exact .inl h;exact .inr ⟨id,t,c,h1,aP h2 a,h3,h4,(b id h1 h2).trans h5,h6⟩
theorem lY.ext (h:lY lo m v l)(e:Ext m m'):lY lo m' v l:=h.keep e.nx λi _ a=>e.old i a
theorem lY.cells (h:lY lo m v l):v.cells=[v]:=by rcases h with⟨rfl,_⟩ | ⟨id,t,c,_,_,_,rfl,_⟩<;>rfl
theorem lY.A8 (h:lY lo m v l):Go.AM.A8 v=true:=by rcases h with⟨rfl,_⟩ | ⟨id,t,c,_,_,_,rfl,_⟩<;>rfl
theorem lY.aY (h:lY lo m v l){a:Type}(p:d9->a)(q:a):jf v p q=q:=by rcases h with⟨rfl,_⟩ | ⟨id,t,c,_,_,_,rfl,_⟩<;>rfl
theorem Ka:∀l:List (List UInt8),wC (l.map λw=>[d9.str w])=some l
 | []=>rfl
 | w::l=>by show ob (wC (l.map λw=>[d9.str w])) (λt=>some (w::t))=_;rw [Ka l];rfl
end
section
variable (cf:H7)(fu:Nat)(ls:List d9)(env:T d9)(m:Mem)(k:List Mk)
@[simp] theorem amw (x:OF):nZ x cf ls env m=acP (x ls env) m:=id rfl
@[simp] theorem ajq (t:TypeId)(v:d9):acP (.iface t v) m=some [⟨.aY (.iface t v),m⟩]:=id rfl
@[simp] theorem ajr (x:d9):om k ⟨env,m,some x,[]⟩=some [⟨.ret,env,m,k,some x⟩]:=id rfl
@[simp] theorem ajs (x:Mk):om k ⟨env,m,none,[x]⟩=some [⟨.normal,env,m,x::k,none⟩]:=id rfl
@[simp] theorem amx (a:mY)(rs:List qQ)(x:d9):leave a rs ⟨.ret,env,m,[],some x⟩=some [⟨.aY x,m⟩]:=id rfl
@[simp] theorem agJ:gT .nilIface .nilIface=some true:=id rfl
@[simp] theorem adA (t:TypeId)(v:d9):gT (.iface t v) .nilIface=some false:=id rfl
@[simp] theorem amy (r:RC):qh r cf fu none env m k=bnd (r cf [] env m) (om k):=id rfl
@[simp] theorem anr (g:OF)(args:List OF):uM g args cf ls env m=PI (g ls env) λfn a b=>some [⟨env,m,none,[.d (.func fn a b) (evs args ls env)]⟩]:=id rfl
def behind (rs:List qQ)(env:T d9)(r:Mem×Option d9):pI:=BM rs env r.2 r.1
theorem VU (c:mY)(rs:List qQ)(f:FuncId)(a b args:List d9)(pv:Option d9):leave c rs ⟨.ret,env,m,[.d (.func (.func f) a b) args],pv⟩=bnd (c f (a++(args++b)) pv m) (behind rs env):=by show bnd (c f (cZ a (cZ args b)) pv m) (behind rs env)=_;rw [V8,V8]
@[simp] theorem amz (rs:List qQ):behind rs env (m,none)=ob (results rs env m) λl=>some [⟨result l,m⟩]:=id rfl
def agK (b:bE)(r:Tf):Option (List Tf):=match r.o.x with
 | .normal=>match r.o.marks with
  | []=>Bj b cf fu r.o.env r.o.m r.md
  | _=>none
 | _=>some [r]
variable (md:Option d9)
theorem VW (a b:bE):Bj (.seq a b) cf fu env m md=bnd (Bj a cf fu env m md) (agK cf fu b):=rfl
theorem Rm (c:aO)(a b:bE):Bj (.cond c a b) cf fu env m md=qU (J4 c [] env) λt=>bi t (Bj a cf fu env m md) (Bj b cf fu env m md):=rfl
def ant (r:EM×Option d9):Option (List Tf):=some [⟨⟨.normal,r.1.env,r.1.m,[],none⟩,r.2⟩]
def OI (md:Option d9)(o:Out):Option (List Tf):=some [⟨o,md⟩]
theorem Rn {ops:List Inst}(h:Jc ops=true):Bj (.reg ops) cf fu env m md=bnd (xM ops cf [] env m md) ant:=by simp only [Bj,h];rfl
theorem zN {ops:List Inst}(h:Jc ops=false):Bj (.reg ops) cf fu env m md=bnd (xL (.reg ops) cf fu none env m []) (OI md):=by simp only [Bj,h];rfl
theorem Ro:Bj .skip cf fu env m md=bnd (xL .skip cf fu none env m []) (OI md):=rfl
@[simp] theorem anu (b:bE):agK cf fu b ⟨⟨.normal,env,m,[],none⟩,md⟩=Bj b cf fu env m md:=id rfl
@[simp] theorem azD (o:Out):OI md o=some [⟨o,md⟩]:=id rfl
theorem ML:Tg [] ⟨⟨.normal,env,m,[],none⟩,md⟩=some [(m,md)]:=rfl
end
theorem XZ {x:OF}{c:Nat}{d:d9->T d9->T d9}{k:DC}{cf:H7}{b:Nat}{ls:List d9}{env:T d9}{m:Mem}{gs:List Mem}{id off len a:Nat}(g:x ls env=.slice id off len a)(f:isVoid ((hd m gs).get id)=true)(e:isCells (m.get id)=true):
  Fg x c d k cf b ls env m gs=ob (aT x ls env m) λv=>k cf b (v::ls) (d v env) m gs:=by
 unfold Fg;rw [g];show bi (isVoid ((hd m gs).get id)) (bi (isCells (m.get id)) _ none) _=_;rw [f,e];rfl
def TW (P:Program)(slots:List Nat)(ops:Array Oper):Option bE:=
 match mZ P slots ops [] (canon (Jd ops) (masks ops.toList) ops.size) with
 | none=>none
 | some insts=>some (.dreg (NQ insts) (numbered (masks ops.toList) ((canon (Jd ops) (masks ops.toList) ops.size).zip insts) [] 0))
theorem Ya {P:Program}{a:List Nat}{ops:Array Oper}{c:bE}(h:Gv P a ops=some c):TW P a ops=some c:=by unfold Gv at h;unfold TW;split at h;cases h;rename_i b d;rw [d];split at h;exact h;cases h
def lZ (P:Program)(slots:List Nat):Code->Option bE
 | .skip=>some .skip
 | .region _ ops false=>match mZ P slots ops [] (List.range ops.size) with
  | some l=>some (.reg l)
  | none=>none
 | .region _ ops true=>TW P slots ops
 | .seq a b=>match lZ P slots a,lZ P slots b with
  | some x,some y=>some (.seq x y)
  | _,_=>none
 | .cond c a b=>match ay P slots [] c,lZ P slots a,lZ P slots b with
  | some z,some x,some y=>some (.cond z x y)
  | _,_,_=>none
 | .block id a=>match lZ P slots a with
  | some x=>some (.block id x)
  | none=>none
 | .loop a=>match lZ P slots a with
  | some x=>some (.loop x)
  | none=>none
 | .exit id=>some (.exit id)
 | .ret=>some .ret
 | .rangeFunc f ps a b=>match ay P slots [] f,lZ P slots a,lZ P slots b with
  | some z,some x,some y=>some (.rangeFunc z (ps.toList.map λt=>idxOf t slots 0) x y)
  | _,_,_=>none
 | _=>none
theorem kQ {P:Program}{slots:List Nat}:∀(k:Code) {c:bE},aQ P slots k=some c->lZ P slots k=some c
 | .skip,_,h=>h
 | .region _ _ false,_,h=>h
 | .region _ _ true,_,h=>Ya h
 | .seq a b,c,h=>by unfold aQ at h;split at h;rename_i x y hx hy;unfold lZ;rw [kQ a hx,kQ b hy];exact h;cases h
 | .cond z a b,c,h=>by unfold aQ at h;split at h;rename_i w x y hw hx hy;unfold lZ;rw [hw,kQ a hx,kQ b hy];exact h;cases h
 | .block _ a,c,h=>by unfold aQ at h;split at h;rename_i x hx;unfold lZ;rw [kQ a hx];exact h;cases h
 | .loop a,c,h=>by unfold aQ at h;split at h;rename_i x hx;unfold lZ;rw [kQ a hx];exact h;cases h
 | .rangeFunc z _ a b,c,h=>by unfold aQ at h;split at h;rename_i w x y hw hx hy;unfold lZ;rw [hw,kQ a hx,kQ b hy];exact h;cases h
 | .exit _,_,h=>h
 | .ret,_,h=>h
 | .scope _,_,h=>by cases h
 | .label _,_,h=>by cases h
 | .goto _,_,h=>by cases h
 | .refuse _,_,h=>by cases h
def aaj (P:Program)(slots:List Nat)(f:FuncId):Option AFn:=
 match P.funcs[f]? with
 | none=>none
 | some fn=>match fn.body with
  | none=>none
  | some c=>match lZ P slots c,Ib P slots fn.results.toList with
   | some b,some r=>some ⟨fn.params.size+fn.nfree,(List.range (fn.params.size+fn.nfree)).map λt=>idxOf t slots 0,slots.length,r,b⟩
   | _,_=>none
theorem adB {P:Program}{d:List Nat}{f:FuncId}{a:AFn}(h:YP P d f=some a):aaj P d f=some a:=by unfold YP at h;unfold aaj;split at h;cases h;rename_i k i;rw [i];split at h;cases h;rename_i c g;simp only [g];split at h;rename_i b r e j;rw [kQ _ e,j];split at h;exact h;cases h;cases h
def cT (P:Program)(slots:List Nat)(pure rc:Bool)(f:FuncId):L6:=TR pure rc ((aaj P slots f).getD ⟨0,[],0,[],.skip⟩)
theorem VX {P:Program}{b:List Nat}{f:FuncId}{c d:Bool}(h:(YP P b f).isSome=true):sI P f (cT P b c d f):=by
 obtain⟨a,e⟩:=Option.isSome_iff_exists.1 h;have:cT P b c d f=TR c d a:=by unfold cT;rw [adB e];rfl
 rw [this];exact VO e c d
theorem FP (b c:UInt8):Nat.beq b.toNat c.toNat=decide (b=c):=by
 by_cases h:b=c;subst h;rw [decide_eq_true rfl];exact acK _;rw [decide_eq_false h];cases hb:Nat.beq b.toNat c.toNat with
 | false=>rfl
 | true=>exact absurd (amB.1 (l7 hb)) h
theorem qM (c b:UInt8)(l:List UInt8):AY c (b::l)=bi (Nat.beq b.toNat c.toNat) ([]::AY c l) (List.rec [[b]] (λh t _=>(b::h)::t) (AY c l)):=rfl
theorem OJ (c:UInt8):∀s,∃h t,AY c s=h::t
 | []=>⟨_,_,rfl⟩
 | b::l=>by obtain⟨h,t,e⟩:=OJ c l;rw [qM,e];cases Nat.beq b.toNat c.toNat;exact⟨_,_,rfl⟩;exact⟨_,_,rfl⟩
section
variable {P:Program}{G:Mem}
theorem adC (n:Nat)(s:List UInt8)(m:Mem):Bh n ⟨.str s,m⟩=some ⟨.str s,[]⟩:=rfl
theorem MN (c:UInt8):∀s:List UInt8,oI c s=Lib.indexByte s c
 | []=>rfl
 | b::l=>by show bi (Nat.beq b.toNat c.toNat) 0 (bi (uJ (oI c l) (Int.negSucc 0)) (Int.negSucc 0) (oI c l+1))=_;rw [FP,MN c l,ni];rw [show Lib.indexByte (b::l) c=if b==c then 0 else if Lib.indexByte l c == -1 then -1 else Lib.indexByte l c+1 from rfl];by_cases h:b=c;rw [decide_eq_true h,if_pos (beq_iff_eq.2 h)];rfl;rw [decide_eq_false h,if_neg (by simpa using h)];show bi (Lib.indexByte l c == -1) (-1) (Lib.indexByte l c+1)=_;cases Lib.indexByte l c == -1<;>rfl
theorem MO (c:UInt8):∀s:List UInt8,nD c s=Lib.countByte s c
 | []=>rfl
 | b::l=>by show bi (Nat.beq b.toNat c.toNat) (Nat.succ (nD c l)) (nD c l)=_;rw [FP,MO c l];unfold Lib.countByte;rw [List.count_cons];by_cases h:b=c;rw [decide_eq_true h,if_pos (by simpa using h)];rfl;rw [decide_eq_false h,if_neg (by simpa using h)];rfl
theorem Yb {f:FuncId}(a:∀(s:ByteArray)(c:UInt8)(w:World),Calls P f #[.string s,.string ⟨#[c]⟩] w λe w'=>e=.returned (.int .i64 (Lib.indexByte s.data.toList c))∧w'=w)
  (s:List UInt8) (c:UInt8):lF P G f [.str s,.str [c]] [] ⟨.int .i64 (oI c s),[]⟩:=
 vE rfl (λ_=>trivial) (λ_ _=>by simp [u7]) λb w _=>by refine agM (a ⟨s.toArray⟩ c w) ?_;rintro e w' ⟨rfl,rfl⟩;exact⟨by simp [u7,MN],Below.refl _ _⟩
theorem Yc {f:FuncId}(a:∀(s:ByteArray)(c:UInt8)(w:World),Calls P f #[.string s,.string ⟨#[c]⟩] w λe w'=>e=.returned (.int .i64 (Lib.countByte s.data.toList c))∧w'=w)
  (s:List UInt8) (c:UInt8):lF P G f [.str s,.str [c]] [] ⟨.int .i64 (.ofNat (nD c s)),[]⟩:=
 vE rfl (λ_=>trivial) (λ_ _=>by simp [u7]) λb w _=>by refine agM (a ⟨s.toArray⟩ c w) ?_;rintro e w' ⟨rfl,rfl⟩;exact⟨by simp [u7,MO],Below.refl _ _⟩
theorem Kc (sep:List UInt8):∀ws,iD sep ws=Lib.join ws sep
 | []=>rfl
 | [x]=>(Lib.join_one x sep).symm
 | x::y::r=>by have ih:=Kc sep (y::r);have e:iD sep (x::y::r)=cZ x (cZ sep (iD sep (y::r))):=rfl;rw [e,ih,V8,V8,Lib.join_cons,Lib.join_cons];simp [Lib.joinTail]
theorem Hf:∀{l:List (List d9)} {ws:List (List UInt8)},wC l=some ws->l=ws.map λw=>[d9.str w]
 | [],ws,h=>by have h:some ([]:List (List UInt8))=some ws:=h;cases h;rfl
 | r::l,ws,h=>by
  match r,h with
  | [.str s],h=>have h:ob (wC l) (λt=>some (s::t))=some ws:=h;obtain⟨t,h1,h2⟩:=D9 h;cases h2;rw [Hf h1];rfl
theorem TY {α:Type}(n:Nat):∀(l:List α) {r:List α},takeN n l=some r->r=l.take n∧n<=l.length:=by
 intro l r h;by_cases a:n<=l.length;rw [iw n l a] at h;cases h;exact⟨rfl,a⟩;exfalso;revert l r;induction n with
 | zero=>intro l r _ a;exact a (adH _)
 | succ n ih=>
  intro l r h a;cases l with
  | nil=>cases h
  | cons x l=>have h:ob (takeN n l) (λt=>some (x::t))=some r:=h;obtain⟨t,b,_⟩:=D9 h;exact ih l b (by simp at a;omega)
theorem aak {f:FuncId}(hG:T.Ok G.t G.nx)
  (X:∀(a:Option Addr) (c:Nat) (d:ByteArray) (w:World),Calls P f #[.slice a 0 c,.string d] w λe w'=>e=.returned (.string ⟨#[]⟩)∧w'=w)
  (Y:∀(bk o c:Nat) (x d:ByteArray) (w:World),w.cell? ⟨bk,o,none⟩=some (.string x)->Calls P f #[.slice (some ⟨bk,o,none⟩) 1 c,.string d] w λe w'=>e=.returned (.string x)∧w'=w)
  (Z:∀(bk o c:Nat) (xs:List ByteArray) (d:ByteArray) (w:World),(∀(j:Nat) x,xs[j]?=some x->w.cell? ⟨bk,o+j,none⟩=some (.string x))->bk<w.heap.size->2<=xs.length->xs.length<=140737488355328->xs.length<=c->
   (Lib.join (xs.map (·.data.toList)) d.data.toList).length<=140737488355328->Calls P f #[.slice (some ⟨bk,o,none⟩) xs.length c,.string d] w λe w'=>e=.returned (.string ⟨(Lib.join (xs.map (·.data.toList)) d.data.toList).toArray⟩)∧Below w.heap.size w w')
  {v:d9} {off n:Nat} (hv:(∃c,v=.slice G.nx off n c∧n<=c)∨∃es,v=.sliceU G.nx off n es) {rows l:List (List d9)} {ws:List (List UInt8)} {d:List UInt8} (hn:n<1000000)
  (U:takeN n (gQ off rows)=some l) (hw:wC l=some ws) (A:(iD d ws).length<1000000):lF P G f [v,.str d] [.cells 1 rows] ⟨.str (iD d ws),[]⟩:=by
 intro i w O C;rw [eT] at U;obtain⟨E,a0⟩:=TY n _ U;have F:=Hf hw;have h:ws.length=n:=by have:=congrArg List.length F;rw [E,adX,adN] at this;omega
 have S:(P7 G [.cells 1 rows]).get G.nx=some (.cells 1 (len' rows) (T.ofList rows)):=by show (G.new (eO (.cells 1 rows))).get G.nx=_;rw [Mem.P5 (m:=G) hG];exact if_pos rfl
 have q:=O.spot G.nx _ S rfl;obtain⟨c,e,fz,Q,h1,_,hr⟩:=O.blk G.nx _ S;have g:∀j (x:List UInt8),ws[j]?=some x->w.cell? ⟨(i G.nx).b,(i G.nx).base+off+j,none⟩=some (.string ⟨x.toArray⟩):=λj x J=>by
  have hj:j<n:=by rw [← h];exact (gB.1 J).1
  have B:rows[off+j]?=some [d9.str x]:=by
   have H:l[j]?=some [d9.str x]:=by rw [F,acs,J];rfl
   rw [E,adP,if_pos hj,amA] at H;exact H
  obtain⟨a1,W,q2,q3,q4⟩:=hr (off+j) (by rw [K7];exact (gB.1 B).1);rw [T.bN,B] at W;cases W;have:=q4 0 (by omega);rw [adG,acy] at this;have I:c[(i G.nx).base+off+j]?=some (.string ⟨x.toArray⟩):=by rw [S9,this];simp [u7]
  simp [World.cell?,Q,I]
 have D:(i G.nx).b<w.heap.size:=(wu.1 Q).1;have k:∀(x:ByteArray) (w':World),x=⟨(iD d ws).toArray⟩->Below w.heap.size w w'->∃ι' r,Step P G i (P7 G [.cells 1 rows]) w ι' r.m w'∧r.v.lt (r.m.nm ι')∧Ending.returned (.string x)=.returned (u7 ι' r.v)∧
   Bh (layAll [.cells 1 rows] G).nx r=some ⟨.str (iD d ws),[]⟩:=λx w' J K=>
  ⟨i,⟨.str (iD d ws),P7 G [.cells 1 rows]⟩,Co O K,trivial,by rw [J];simp [u7],rfl⟩
 have L:∃cap,n<=cap∧u7 i v=.slice (some ⟨(i G.nx).b,(i G.nx).base+off,none⟩) n cap:=by rcases hv with⟨cap,rfl,p⟩ | ⟨es,rfl⟩;exact⟨cap,p,by simp [u7,N9.Dh q]⟩;have N:d9.lt ((P7 G [.cells 1 rows]).nm i) (.sliceU G.nx off n es):=C.1;obtain⟨_,H,I⟩:=N;refine⟨((i G.nx).cap-off) / es,?_,by simp [u7,N9.Dh q]⟩;have I:off+n*es<=(i G.nx).cap:=I;exact (agW H).2 (by omega)
 obtain⟨cap,p,M⟩:=L;have s:(C8 i [v,.str d]).toArray=#[.slice (some ⟨(i G.nx).b,(i G.nx).base+off,none⟩) n cap,.string ⟨d.toArray⟩]:=by simp [C8,M,u7]
 rw [s];refine callsIn_wide.2 ?_;match ws,h,g,A,k with
 | [],h,_,_,k=>obtain rfl:n=0:=h.symm;refine agM (X _ cap ⟨d.toArray⟩ w) ?_;rintro e w' ⟨rfl,rfl⟩;exact k _ _ rfl (Below.refl _ _)
 | [x],h,g,_,k=>obtain rfl:n=1:=h.symm;refine agM (Y _ _ cap ⟨x.toArray⟩ ⟨d.toArray⟩ w (g 0 x rfl)) ?_;rintro e w' ⟨rfl,rfl⟩;exact k _ _ rfl (Below.refl _ _)
 | x::y::t,h,g,A,k=>
  have R:((x::y::t).map λz:List UInt8=>(⟨z.toArray⟩:ByteArray)).map (λb:ByteArray=>b.data.toList)=x::y::t:=by rw [aCN];exact List.map_id'' (λ_=>rfl) _
  have:=Z (i G.nx).b ((i G.nx).base+off) cap ((x::y::t).map λz:List UInt8=>(⟨z.toArray⟩:ByteArray)) ⟨d.toArray⟩ w (λj z V=>by
   rw [acs] at V;obtain⟨u,hu,rfl⟩:=adV.1 V;exact g j u hu) D (by simp) (by rw [adN,h];omega) (by rw [adN,h];exact p) (by
    rw [R];show (Lib.join (x::y::t) d).length<=_;rw [← Kc];omega)
  rw [R,adN,h] at this;refine agM this ?_;rintro e w' ⟨rfl,K⟩;refine k _ _ ?_ K;rw [Kc]
end
def anv (ops:Array Oper)(done:List (Option Nat))(i:Nat):List Nat:=
 match ops[i]? with
 | none=>[]
 | some o=>o.op.operands.toList.filterMap fun
  | .tmp t=>match kX t done 0 with
   | none=>some t
   | some _=>none
  | _=>none
def aal (ops:Array Oper):List Nat->List (Option Nat)->List Nat
 | [],_=>[]
 | i::l,done=>anv ops done i++aal ops l (((ops[i]?).bind (·.dst))::done)
def anw:Operand->List Nat
 | .tmp t=>[t]
 | _=>[]
def Ef:Code->List Nat
 | .region _ ops false=>aal ops (List.range ops.size) []
 | .region _ ops true=>aal ops (canon (Jd ops) (masks ops.toList) ops.size) []
 | .seq a b=>Ef a++Ef b
 | .cond c a b=>anw c++(Ef a++Ef b)
 | .block _ b=>Ef b
 | .loop b=>Ef b
 | .rangeFunc f _ a b=>anw f++(Ef a++Ef b)
 | _=>[]
def anx (x:Nat):List Nat->Bool
 | []=>false
 | y::l=>bif Nat.beq x y then true else anx x l
def ajt:List Nat->List Nat->List Nat
 | [],acc=>acc.reverse
 | x::l,acc=>bif anx x acc then ajt l acc else ajt l (x::acc)
def aju:List ResultVar->List Nat
 | []=>[]
 | .tmp t::l=>t::aju l
 | .cell t _::l=>t::aju l
def mg (P:Program)(f:FuncId):List Nat:=match P.funcs[f]? with
 | none=>[]
 | some fn=>match fn.body with
  | none=>[]
  | some c=>ajt (Ef c++aju fn.results.toList) []
def YT:bE->Nat
 | .seq a b=>YT a+YT b
 | .cond _ a b=>YT a+YT b
 | .block _ a=>YT a
 | .loop a=>YT a+1
 | _=>0
def trN (nm:List SC):bE->Nat->SC
 | .seq a b,n=>dx (trN nm a (n+YT b)) (trN nm b n)
 | .cond c a b,n=>oo (J4 c) (trN nm a (n+YT b)) (trN nm b n)
 | .block id a,n=>kI id (trN nm a n)
 | .loop a,n=>qj (nm.getD (n+YT a) kW)
 | c,_=>xL c
def Ua (k:Nat):bE->Nat->Option (bE×Nat)
 | .seq a b,n=>match Ua k b n with
  | some x=>some x
  | none=>Ua k a (n+YT b)
 | .cond _ a b,n=>match Ua k b n with
  | some x=>some x
  | none=>Ua k a (n+YT b)
 | .block _ a,n=>Ua k a n
 | .loop a,n=>if k=n+YT a then some (a,n) else Ua k a n
 | _,_=>none
def fQ (P:Program)(pu rc:Bool)(f:FuncId)(nm:List SC):L6:=match aaj P (mg P f) f with
 | some a=>⟨pu,a.args,a.nslots,a.results,trN nm a.body 0,bif rc then some a.body else none⟩
 | none=>⟨pu,[],0,[],kW,none⟩
def lQ (P:Program)(f:FuncId)(k:Nat)(nm:List SC):SC:=match aaj P (mg P f) f with
 | some a=>match Ua k a.body 0 with
  | some (b,n)=>trN nm b n
  | none=>kW
 | none=>kW
theorem anz (n:Nat)(h:n<2^8):(⟨⟨⟨n,h⟩⟩⟩:UInt8)=OfNat.ofNat n:=by show _=UInt8.ofNat n;apply amB.1;show n=(UInt8.ofNat n).toNat;rw [UInt8.toNat_ofNat'];exact (adO h).symm
structure J6 {α:Type}(a:α) where
 c:α
 h:a=c:=by conv=>{lhs;reduce;try simp only [↓anz,-Int.reduceOfNat,-Int.reduceNegSucc]}
structure Qf (P:Program)(p r:Bool)(f:FuncId) where
 c:L6
 h:cT P (mg P f) p r f=c:=by conv=>{lhs;reduce}
 ok:(YP P (mg P f) f).isSome=true:=by kernel_rfl
theorem Qf.is {P:Program}{p r:Bool}{f:FuncId}(q:Qf P p r f):sI P f q.c:=q.h▸VX q.ok
end
end Go.AM
