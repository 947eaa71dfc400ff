/- A part of an evaluator for the model, proved sound: what it answers holds of the model; it speaks of every program, no condition. -/
import Derived.Test.YtpmfjipaheolgaaGreatDoorPA4
import Derived.Deep.Slices
import Derived.Below
import Derived.Lib.SplitLaws
import Derived.Lib.Join
import Derived.Lib.SmallJoins
import Derived.KernelRfl
set_option linter.all false
namespace Go.AM
open Go
open Nat (beq ble blt)
variable {sf:L6}{K:Known}{f:FuncId}
section
variable {P:cH}
structure Sum where
 f:FuncId
 args:cM
 bs:List NB
 a:EK
noncomputable def sumOf (l:List Sum)(f:FuncId)(args:cM)(bs:List NB):Option EK:=
 List.rec none (λs _ ih=>bi (beq s.f f) (bi (wh (bg 100) s.args args) (bi (oD s.bs bs) (some s.a) ih) ih) ih) l
def Ck{G:cD}:∀(l:List Sum),(∀s∈l,lI P G s.f s.args s.bs s.a)->∀f args bs a,sumOf l f args bs=some a->lI P G f args bs a
 |[],_,f,args,bs,a,h=>by cases h
 |s::l,hl,f,args,bs,a,h=>by
  have ih:=Ck l (λs hs=>hl s (by simp[hs])) f args bs a;have h:bi (beq s.f f) (bi (wh (bg 100) s.args args) (bi (oD s.bs bs) (some s.a) (sumOf l f args bs)) (sumOf l f args bs)) (sumOf l f args bs)=some a:=h;cases h1:beq s.f f with
  |false=>rw[h1]at h;exact ih h
  |true=>
   rw[h1]at h;cases h2:wh (bg 100) s.args args with
   |false=>rw[h2]at h;exact ih h
   |true=>
    rw[h2]at h;cases h3:oD s.bs bs with
    |false=>rw[h3]at h;exact ih h
    |true=>rw[h3]at h;have h:some s.a=some a:=h;cases h;rw[← nA h1,← oL (lX 100) _ _ h2,← tH _ _ h3];exact hl s ZZ
structure KOk(P:cH)(K:Known):Prop where
 mix:P.follows .mixedOrders=true
 fns:∀f sf,K.fns f=some sf->sO P f sf
 base:∃Ny,Pf K.base Ny
 sum:∀f args bs a,K.sum f args bs=some a->lI P K.base f args bs a
def zy(K:Known)(a:Nat)(b:Fn)(args:cM)(m:cD):l9 K a 0 b args m=none:=rfl
def mK(K:Known)(fuel n:Nat)(fn:Fn)(args:cM)(m:cD):l9 K fuel (n+1) fn args m=match fn with
   |.func f=>ob (K.fns f) λsf=>bi sf.pure (yL K (l9 K fuel n) fuel f sf args m) (dD (l9 K fuel n) (Di K (l9 K fuel n) fuel) fuel sf args m)
   |.yield l=>Ot (l9 K fuel n) fuel l args m
   |_=>none:=rfl
def RQ(i:KOk P K){cf:G6}(d:uD P K.base cf){c:Nat}(hf:sO P f sf){args:cM}{g:List NB}{a:EK}(h:Gt K cf c f sf args g=some a):lI P K.base f args g a:=by
 unfold Gt at h;cases hs:K.sum f args g with
 |some b=>rw[hs]at h;have h:some b=some a:=h;cases h;exact i.sum f args g _ hs
 |none=>rw[hs]at h;exact UF d (MW i.fns d c λe j r=>rT i.mix d e j r) i.mix c hf h
def Na(e:KOk P K)(d:Nat):∀n,uD P K.base (l9 K d n):=by
 intro n;induction n with
 |zero=>exact⟨(λh=>by rw[zy]at h;cases h),(λh=>by rw[zy]at h;cases h),(λh=>by rw[zy]at h;cases h)⟩
 |succ n ih=>
  refine⟨λ{f args m outs} h=>?_,λ{l args m outs} h {ι w} hm hargs=>?_,λ{fn args m outs} h=>?_⟩;rw[mK]at h;let⟨j,k,h⟩:=D7 h;have i:=e.fns f j k;refine⟨i.ok,λ{ι w} hm hargs=>?_⟩;cases hp:j.pure with
  |false=>rw[hp]at h;exact Rz ih (MW e.fns ih d λb g r=>rT e.mix ih b g r) d (λb g r=>rT e.mix ih b g r) i h hm hargs
  |true=>rw[hp]at h;have h:yL K (l9 K d n) d f j args m=some outs:=h;let⟨c,o,h⟩:=D7 h;let⟨a,p,h⟩:=D7 h;let⟨v,q,h⟩:=D7 h;let⟨t,s,h⟩:=D7 h;cases h;exact RP e.base hm hargs o (RQ e ih i p) q s
  rw[mK]at h;exact Ry ih d (λb g r=>rT e.mix ih b g r) h hm hargs;rw[mK]at h;cases fn with
  |func f=>exact .inl ⟨f,rfl⟩
  |yield l=>exact .inr ⟨l,rfl⟩
  |_=>cases h
def UH(d:KOk P K){b n:Nat}(hf:sO P f sf){args:cM}{c:List NB}{a:EK}(h:Gt K (l9 K b n) b f sf args c=some a):lI P K.base f args c a:=
 RQ d (Na d b n) hf h
end
noncomputable def UJ (pure rc:Bool)(a:AFn):L6:=⟨pure,a.args,a.nslots,a.results,yJ a.body,bif rc then some a.body else none⟩
def WW{P:cH}{d:cR}{a:AFn}(h:ZV P d f=some a)(j m:Bool):sO P f (UJ j m a):=by
 unfold ZV at h;split at h;cases h;rename_i k g;split at h;cases h;rename_i c l;split at h;rename_i b r s u;split at h;rename_i i;cases h;simp only[oo,bne_iff_ne,ne_eq]at i;let⟨⟨⟨n,o⟩,p⟩,q⟩:=i;refine⟨⟨k,g,by rw[l];rfl,q⟩,d,k,c,b,r,g,l,s,u,n,λt v=>?_,?_,rfl,rfl,rfl,rfl,λw e=>?_⟩;exact Eq.mp O8 (agT.1 o t v);have:d.length<1152921504606846976:=Eq.mp O8 p;exact this;cases m with
 |true=>exact(rW e).symm
 |false=>cases e
 cases h;cases h
def Pg{P:cH}{b:cR}{c d:Bool}(h:(ZV P b f).map (UJ c d)=some sf):sO P f sf:=by
 cases hc:ZV P b f with
 |none=>rw[hc]at h;cases h
 |some a=>rw[hc]at h;cases h;exact WW hc c d
end Go.AM
namespace Go.AM
open Go
open Nat (beq ble blt)
noncomputable section
def TOk(P:cH)(r:Nat->Nat)(t:T (Option L6)):Prop:=∀i sf,t.get i=some (some sf)->sO P (r i) sf
variable {P:cH}
def atn{r:Nat->Nat}:TOk P r .e:=λi a h=>by cases h
def OOk(P:cH)(i:Nat)(o:Option L6):Prop:=∀sf,o=some sf->sO P i sf
def atp{i:Nat}:OOk P i none:=λ_ h=>by cases h
def atq{i:Nat}{sf:L6}(h:sO P i sf):OOk P i (some sf):=λ_ e=>by cases e;exact h
def akw{r:Nat->Nat}{a b:T (Option L6)}{x:Option L6}(d:TOk P (λi=>r (2*i+1)) a)(f:OOk P (r 0) x)(hb:TOk P (λi=>r (2*i+2)) b):TOk P r (.nd a x b):=by
 intro i sf h;cases i with
 |zero=>exact f sf (rW h)
 |succ j=>
  have h:(Nat.rec (a.get (Nat.div j 2)) (λ_ _=>b.get (Nat.div j 2)) (Nat.mod j 2):Option (Option L6))=some (some sf):=h;rcases adp j with h2|h2;have c:Nat.mod j 2=0:=h2;rw[c]at h;have:=d _ sf h;have e:2*Nat.div j 2+1=j+1:=by have:Nat.div j 2=j / 2:=rfl;omega
  have this:sO P (r (2*Nat.div j 2+1)) sf:=this;rw[e]at this;exact this;have c:Nat.mod j 2=1:=h2;rw[c]at h;have:=hb _ sf h;have e:2*Nat.div j 2+2=j+1:=by have:Nat.div j 2=j / 2:=rfl;omega
  have this:sO P (r (2*Nat.div j 2+2)) sf:=this;rw[e]at this;exact this
def aaO{t:T (Option L6)}(h:TOk P (λi=>i) t):∀f sf,ob (t.get f) (λx=>x)=some sf->sO P f sf:=by intro f sf c;let⟨x,b,a⟩:=D7 c;have a:x=some sf:=a;rw[a]at b;exact h f sf b
section
variable {α β γ:Type}
@[simp] theorem asb(a:α)(f:α->Option (List β)):bnd (some [a]) f=f a:=Ys
@[simp] theorem akx(a:α)(f:α->Option β):Ua (some [a]) f=f a:=Ys
end
section
variable (k:cJ)(b:Bool)(n:Int)(s:List cL)(i o l c:Nat)(v:j5)(as bs:cM)(fn:Fn){β:Type}
@[simp] theorem ajz(p:j5->β)(q:β):iK (.bool b) p q=q:=Ys
@[simp] theorem aky(p:j5->β)(q:β):iK (.int k n) p q=q:=Ys
@[simp] theorem akz(p:j5->β)(q:β):iK (.str s) p q=q:=Ys
@[simp] theorem adj(p:j5->β)(q:β):iK .nilSlice p q=q:=Ys
@[simp] theorem ahs(p:j5->β)(q:β):iK (.slice i o l c) p q=q:=Ys
@[simp] theorem agF(p:j5->β)(q:β):iK (.sliceU i o l c) p q=q:=Ys
@[simp] theorem akA(p:j5->β)(q:β):iK (.map i) p q=q:=Ys
@[simp] theorem ajA(p:j5->β)(q:β):iK (.func fn as bs) p q=q:=Ys
@[simp] theorem akB(p:j5->β)(q:β):iK (.agg as) p q=q:=Ys
@[simp] theorem aht(p:j5->β)(q:β):iK (.tuple as) p q=q:=Ys
@[simp] theorem ahu(p:j5->β)(q:β):iK .undef p q=q:=Ys
@[simp] theorem akC(p:j5->β)(q:β):iK (.aL v) p q=p v:=Ys
end
@[simp] theorem atr(x:j5)(ls:cM)(env:T j5):N9 (x::ls) env=x:=Ys
@[simp] theorem att(a x:j5)(ls:cM)(env:T j5):uQ (a::x::ls) env=x:=Ys
@[simp] theorem atu(a b x:j5)(ls:cM)(env:T j5):jJ (a::b::x::ls) env=x:=Ys
@[simp] theorem atv(a b c x:j5)(ls:cM)(env:T j5):vT (a::b::c::x::ls) env=x:=Ys
@[simp] theorem asc(k:Nat)(ls:cM)(env:T j5):bE k ls env=ls[k]?.getD .undef:=aai k ls
@[simp] theorem ase(v:j5)(ls:cM)(env:T j5):bO v ls env=v:=Ys
@[simp] theorem akD(g:T j5->j5)(ls:cM)(env:T j5):G5 g ls env=g env:=Ys
@[simp] theorem aw2(l r:T j5)(x:j5):gH (.nd l x r)=x:=Ys
@[simp] theorem aw3(g:T j5->j5)(l r:T j5)(x:j5):gL g (.nd l x r)=g l:=Ys
@[simp] theorem aw4(g:T j5->j5)(l r:T j5)(x:j5):gR g (.nd l x r)=g r:=Ys
@[simp] theorem aw5(v:j5)(l r:T j5)(x:j5):sH v (.nd l x r)=.nd l v r:=Ys
@[simp] theorem aw6(s:j5->T j5->T j5)(v:j5)(l r:T j5)(x:j5):sL s v (.nd l x r)=.nd (s v l) x r:=Ys
@[simp] theorem aw7(s:j5->T j5->T j5)(v:j5)(l r:T j5)(x:j5):sR s v (.nd l x r)=.nd l x (s v r):=Ys
@[simp] theorem atw(v:j5)(t:T j5):gT v t=t:=Ys
@[simp] theorem asf(ls:cM)(env:T j5):evs [] ls env=[]:=Ys
@[simp] theorem akE(x:OF)(l:List OF)(ls:cM)(env:T j5):evs (x::l) ls env=x ls env::evs l ls env:=Ys
variable {j:Nat}{cF:T cM}
section
variable {β:Type}(ls:cM)(env:T j5)(m:cD)
@[simp] theorem ash(x:OF):fI x ls env=some (x ls env):=Ys
@[simp] theorem akF(c a b:OF):dw c a b ls env=rE (c ls env) λt=>some (bi t (a ls env) (b ls env)):=Ys
@[simp] theorem akG(b:Bool)(k:Bool->Option β):rE (.bool b) k=k b:=Ys
@[simp] theorem asi(k:cJ)(n:Int)(f:cJ->Int->Option β):xL (.int k n) f=f k n:=Ys
@[simp] theorem Ij(s:List cL)(f:List cL->Option β):xM (.str s) f=f s:=Ys
@[simp] theorem asj(i o:Nat)(f:Nat->Nat->Option β):pO (.ptr i o) f=f i o:=Ys
@[simp] theorem asl(l:cM)(f:cM->Option β):EL (.agg l) f=f l:=Ys
@[simp] theorem asn(l:cM)(f:cM->Option β):Qw (.tuple l) f=f l:=Ys
@[simp] theorem aso(i:Nat)(z:Option β)(f:Nat->Option β):Ba (.map i) z f=f i:=Ys
@[simp] theorem asq(z:Option β)(f g:Nat->Nat->Nat->Nat->Option β):xC .nilSlice z f g=z:=Ys
@[simp] theorem vI(a b c d:Nat)(z:Option β)(f g:Nat->Nat->Nat->Nat->Option β):xC (.slice a b c d) z f g=f a b c d:=Ys
@[simp] theorem rV(a b c d:Nat)(z:Option β)(f g:Nat->Nat->Nat->Nat->Option β):xC (.sliceU a b c d) z f g=g a b c d:=Ys
@[simp] theorem asr(fn:Fn)(a b:cM)(f:Fn->cM->cM->Option β):Qx (.func fn a b) f=f fn a b:=Ys
@[simp] theorem je(n:Nat)(k:Nat->Option β):aa3 (n:Int) k=k n:=Ys
@[simp] theorem kQ(k:cJ)(n:Int)(f:Nat->Option β):jC (.int k n) f=aa3 n f:=Ys
@[simp] theorem JU(k:cJ):kEq k k=true:=by cases k<;>rfl
@[simp] theorem atx(f:IB)(g:SB)(x y:OF):Hz f g x y ls env=Bb f g (x ls env) (y ls env):=Ys
@[simp] theorem akH(f:IB)(g:SB)(k:cJ)(a b:Int):Bb f g (.int k a) (.int k b)=f k a b:=by show bi (kEq k k) (f k a b) none=_;rw[JU];rfl
@[simp] theorem akI(f:IB)(g:SB)(a b:List cL):Bb f g (.str a) (.str b)=g a b:=Ys
@[simp] theorem asu(x y:OF):TR x y ls env=TQ (x ls env) (y ls env):=Ys
@[simp] theorem asv(a b:Int):Oe .i64 a b=some (.int .i64 (kY (a+b))):=Ys
@[simp] theorem asw(a b:Int):Qz .i64 a b=some (.int .i64 (kY (a-b))):=Ys
@[simp] theorem asx(a b:Int):TP .i64 a b=some (.int .i64 (kY (a*b))):=Ys
@[simp] theorem aty(k:cJ)(a b:Int):Hw k a b=some (.bool (decide (a=b))):=by show some (j5.bool (qC a b))=_;rw[ny,show(a==b)=decide (a=b)from rfl]
@[simp] theorem atz(k:cJ)(a b:Int):iNe k a b=some (.bool (!decide (a=b))):=by show some (j5.bool (!qC a b))=_;rw[ny,show(a==b)=decide (a=b)from rfl]
@[simp] theorem atA(k:cJ)(a b:Int):iLt k a b=some (.bool (decide (a<b))):=by rw[← iY];rfl
@[simp] theorem atB(k:cJ)(a b:Int):iLe k a b=some (.bool (decide (a<=b))):=by show some (j5.bool (!mX b a))=_;rw[iY,show(!decide (b<a))=decide (a<=b)from by rw[acv];simp]
@[simp] theorem atC(k:cJ)(a b:Int):iGt k a b=some (.bool (decide (b<a))):=by rw[← iY];rfl
@[simp] theorem atD(k:cJ)(a b:Int):iGe k a b=some (.bool (decide (b<=a))):=by show some (j5.bool (!mX a b))=_;rw[iY,show(!decide (a<b))=decide (b<=a)from by rw[acv];simp]
def Z7{n:Int}(h:-9223372036854775808<=n)(h':n<9223372036854775808):kY n=n:=by
 cases n with
 |ofNat m=>show bi (blt m 9223372036854775808) _ _=_;rw[show blt m 9223372036854775808=true from O8.mpr (by simp at h';omega)];rfl
 |negSucc m=>show bi (blt m 9223372036854775808) _ _=_;rw[show blt m 9223372036854775808=true from O8.mpr Zs];rfl
@[simp] theorem atE(f:IL)(x y:OF):IU f x y ls env=ob (f (x ls env) (y ls env)) λb=>some (.bool b):=Ys
@[simp] theorem atF(f:IL)(x y:OF):pNe f x y ls env=ob (f (x ls env) (y ls env)) λb=>some (.bool (!b)):=Ys
@[simp] theorem asy(x:OF):Oi x ls env=rE (x ls env) λb=>some (.bool (!b)):=Ys
@[simp] theorem asz(x:OF):TS x ls env=xL (x ls env) λk n=>some (.int k (iB k (0-n))):=Ys
@[simp] theorem akJ(k:cJ)(x:OF):IV k x ls env=xL (x ls env) λ_ n=>some (.int k (iB k n)):=Ys
@[simp] theorem ajB(t:cI)(x:OF):BI t x ls env=some (.iface t (x ls env)):=Ys
@[simp] theorem akK(fn:Fn)(a b:List OF):Me fn a b ls env=some (.func fn (evs a ls env) (evs b ls env)):=Ys
@[simp] theorem adT(x:OF):ou x ls env=IQ (x ls env):=Ys
@[simp] theorem ahv(i o:Nat):IQ (.ptr i o)=some (.ptr i o):=Ys
@[simp] theorem ajC(o:Nat)(x:OF):H9 o x ls env=pO (x ls env) λid off=>some (.ptr id (off+o)):=Ys
@[simp] theorem akL(off:Nat)(x:OF):IW off x ls env=EL (x ls env) λcs=>cs[off]?:=by show EL (x ls env) (λcs=>vU off cs)=_;simp
@[simp] theorem asA(x:OF)(i:Nat):pExt x i ls env=Qw (x ls env) λl=>l[i]?:=by show Qw (x ls env) (λl=>vU i l)=_;simp
@[simp] theorem asB(x:OF):QD x ls env=xC (x ls env) (some (.int .i64 0)) (λ_ _ n _=>some (.int .i64 n)) (λ_ _ n _=>some (.int .i64 n)):=Ys
@[simp] theorem akM(x:OF):IX x ls env=xM (x ls env) λs=>some (.int .i64 s.length):=by show xM (x ls env) (λs=>some (j5.int .i64 (.ofNat (len' s))))=_;simp
def Z0(len i:Nat)(k:Nat->Option β)(h:i<len):idx len (.int .i64 i) k=k i:=by show bi (blt i len) (k i) none=_;rw[show blt i len=true from O8.mpr h];rfl
@[simp] theorem iq(es:Nat)(x i:OF):ow es x i ls env=xC (x ls env) none (λid off len _=>idx len (i ls env) λk=>some (.ptr id (off+k*es)))
  (λid off len _=>idx len (i ls env) λk=>some (.ptr id (off+k*es))):=rfl
@[simp] theorem asC(cs:cM):lay [] ls env cs=some cs:=Ys
def aaP(p:Nat×Nat×OF)(l:List (Nat×Nat×OF))(cs:cM):lay (p::l) ls env cs =
   bi (beq (len' (p.2.2 ls env).cells) p.2.1) (bi (ble (Nat.add p.1 p.2.1) (len' cs)) (lay l ls env (pK p.1 (p.2.2 ls env).cells cs)) none) none:=rfl
@[simp] theorem ajD(z:cM)(ps:List (Nat×Nat×OF)):vW z ps ls env=ob (lay ps ls env z) λl=>some (.agg l):=Ys
def ld1(b:Option Y9)(off:Nat):Option j5:=aY b λrs n cF=>cell1 rs n cF off
def RU(b:Option Y9)(off k:Nat):Option j5:=aY b λrs n cF=>ob (qp rs n cF off k) λl=>some (.agg l)
def ZX(b:Option Y9)(off:Nat)(vs:cM):Option Y9:=aY b λrs n cF=>ob (bf rs n cF off vs) λrows'=>some (.cells rs n rows')
@[simp] theorem ajE(a:OF):U6 a ls env m=pO (a ls env) λid off=>ld1 (m.get id) off:=Ys
@[simp] theorem ajF(k:Nat)(a:OF):ak k a ls env m=pO (a ls env) λid off=>RU (m.get id) off k:=Ys
@[simp] theorem dJ(rs n:Nat)(cF:T cM)(k:Nat->Nat->T cM->Option β):aY (some (.cells rs n cF)) k=k rs n cF:=Ys
def iw{rs n:Nat}{i:Nat}{row:cM}(a:j<rs)(hi:i<n)(h:cF.get i=some row):cell1 rs n cF (i*rs+j)=row[j]?:=by
 unfold cell1;have b:Nat.div (i*rs+j) rs=i:=by show(i*rs+j) / rs=i;rw[ajr,Nat.mul_add_div Zs,avU a];rfl
 have c:Nat.mod (i*rs+j) rs=j:=by show(i*rs+j)%rs=j;rw[ajr,axM,aju a]
 rw[b,c,h,show blt i n=true from O8.mpr hi];exact nu _ _
def wN{rs n:Nat}{i k:Nat}{row:cM}(c:j<rs)(hi:i<n)(h:cF.get i=some row)(f:row.length=rs)(g:j+k<=rs):
   qp rs n cF (i*rs+j) k=some ((row.drop j).take k):=by
 unfold qp;have d:Nat.div (i*rs+j) rs=i:=by show(i*rs+j) / rs=i;rw[ajr,Nat.mul_add_div Zs,avU c];rfl
 have e:Nat.mod (i*rs+j) rs=j:=by show(i*rs+j)%rs=j;rw[ajr,axM,aju c]
 rw[d,e,h,show blt i n=true from O8.mpr hi];simp only[aC,I6,fC];cases b:beq j 0 with
 |false=>simp only[bA];exact iL _ _ ZD
 |true=>
  have b:=nA b;subst b;simp only[aC];cases a:beq k rs with
  |true=>have a:=nA a;subst a;simp[f.symm]
  |false=>simp only[bA,W9];exact iL _ _ Zs
end
def div_lt{a b:Nat}(h:a<b):Nat.div a b=0:=avU h
def mod_lt{a b:Nat}(h:a<b):Nat.mod a b=a:=aju h
@[simp] theorem ku(cs:cM)(off:Nat):ld1 (some (j6 cs)) off=cs[off]?:=by
 show cell1 (len' cs) 1 (.nd .e cs .e) off=_;rw[K7];unfold cell1;by_cases h:off<cs.length;rw[div_lt h,mod_lt h];exact nu _ _;rw[show cs[off]?=none from by simp;omega];by_cases h0:cs.length=0;rw[h0,show Nat.div off 0=0 from Nat.div_zero off,show Nat.mod off 0=off from Nat.mod_zero off];show vU off cs=none;rw[nu];simp;omega;have:1<=Nat.div off cs.length:=(axn Zs).2 Zs;rw[show blt (Nat.div off cs.length) 1=false from by
  cases hb:blt (Nat.div off cs.length) 1 with
  |false=>rfl
  |true=>have:=O8.mp hb;omega]
variable {off:Nat}
def bH{cs:cM}{k:Nat}(h:off+k<=cs.length)(h0:off<cs.length):RU (some (j6 cs)) off k=some (.agg ((cs.drop off).take k)):=by show ob (qp (len' cs) 1 (.nd .e cs .e) off k) (λl=>some (j5.agg l))=_;have:=wN (rs:=cs.length) (n:=1) (cF:=.nd .e cs .e) (i:=0) (j:=off) (k:=k) (row:=cs) h0 Zs rfl rfl h;rw[ah3,P7]at this;rw[K7,this];rfl
def bR{cs vs:cM}(h:off+vs.length<=cs.length)(h0:off<cs.length):ZX (some (j6 cs)) off vs=some (j6 (cs.take off++(vs++cs.drop (off+vs.length)))):=by
 show ob (bf (len' cs) 1 (.nd .e cs .e) off vs) (λa=>some (Y9.cells (len' cs) 1 a))=_;have b:ble (Nat.add off vs.length) cs.length=true:=l7 h;have c:bf cs.length 1 (.nd .e cs .e) off vs=some (T.nd .e (pK off vs cs) .e):=by unfold bf;rw[div_lt h0,mod_lt h0,K7];show bi (ble (Nat.add off vs.length) cs.length) (some (T.nd .e (pK off vs cs) .e)) none=_;rw[b];rfl
 rw[K7,c,pU off vs cs Zs];show some (Y9.cells cs.length 1 _)=some (Y9.cells (len' _) 1 _);rw[K7];congr 2;simp;omega
def cD.Ok(m:cD):Prop:=T.Ok m.t m.nx
def cD.Ok.new{m:cD}(h:m.Ok)(b:Y9):(m.new b).Ok:=T.Ok.push h b
def cD.Ok.set{m:cD}(h:m.Ok){i:Nat}(hi:i<m.nx)(b:Y9):(m.set i b).Ok:=T.Ok.put h i b hi
def fJ{m:cD}(h:m.Ok)(b:Y9){i:Nat}(a:j<m.nx)(hi:i=j):(m.set j b).get i=some b:=by rw[cD.R9 h a,cg hi]
def jr{m:cD}(h:m.Ok)(b:Y9){i:Nat}(a:j<m.nx)(hi:i≠j):(m.set j b).get i=m.get i:=by rw[cD.R9 h a,aE hi]
def bI{β:Type}{m:cD}{id:Nat}{vs:cM}{k:cD->Option β}(c:m.lim<=id)(a:H8 vs=true):storeAt m id off vs k=ob (ZX (m.get id) off vs) λb=>k (m.set id b):=by
 unfold storeAt;rw[show blt id m.lim=false from by
  cases hb:blt id m.lim with
  |false=>rfl
  |true=>have:=O8.mp hb;omega,a]
 simp only[bA,aC];unfold ZX;match m.get id with
 |some (.cells rs n cF)=>show ob (bf rs n cF off vs) _=ob (ob (bf rs n cF off vs) _) _;cases bf rs n cF off vs<;>rfl
 |some .void|some .dead|some (.map _)|some (.iter ..)|some (.tail _)|some (.loop ..)|some .deferred|none=>rfl
def YR(b:Nat)(a x:OF)(cf:G6)(ls:cM)(env:T j5)(m:cD):kZ b a x cf ls env m=pO (a ls env) λid off=>
   bi (beq (x ls env).cells.length b) (storeAt m id off (x ls env).cells λm'=>some [⟨.undef,m'⟩]) none:=by
 show pO (a ls env) (λid off=>bi (beq (len' (x ls env).cells) b) (storeAt m id off (x ls env).cells λm'=>one .undef m') none)=_;simp only[K7];rfl
@[simp] theorem ahw:H8 []=true:=Ys
@[simp] theorem bY(v:j5)(l:cM):H8 (v::l)=bi (D8 v) (H8 l) false:=Ys
section
variable (cf:G6)(ls:cM)(env:T j5)(m:cD)(d:j5->T j5->T j5)(k:RC)
@[simp] theorem akN:dz cf ls env m=some [⟨env,m,none,[]⟩]:=Ys
@[simp] theorem atG(f:PF):xV f d k cf ls env m=ob (f ls env) λv=>k cf (v::ls) (d v env) m:=Ys
@[simp] theorem asD(f:PF):K8 f k cf ls env m=ob (f ls env) λv=>k cf (v::ls) env m:=Ys
@[simp] theorem atH(f:RF):rcR f d k cf ls env m=ob (f ls env m) λv=>k cf (v::ls) (d v env) m:=Ys
@[simp] theorem asE(f:RF):cZ f k cf ls env m=ob (f ls env m) λv=>k cf (v::ls) env m:=Ys
@[simp] theorem ajG:Lx m none=m:=Ys
@[simp] theorem ajH(b:Y9):Lx m (some b)=m.new b:=Ys
@[simp] theorem atI(f:LF):Ol f d k cf ls env m=ob (f ls env m.nx) λr=>k cf (r.1::ls) (d r.1 env) (Lx m r.2):=Ys
@[simp] theorem asF(f:LF):QF f k cf ls env m=ob (f ls env m.nx) λr=>k cf (r.1::ls) env (Lx m r.2):=Ys
@[simp] theorem atJ(f:EF):rcE f d k cf ls env m=bnd (f cf ls env m) λr=>iK r.v (λx=>some [⟨env,r.m,some x,[]⟩]) (k cf (r.v::ls) (d r.v env) r.m):=Ys
@[simp] theorem asG(f:EF):qE f k cf ls env m=bnd (f cf ls env m) λr=>iK r.v (λx=>some [⟨env,r.m,some x,[]⟩]) (k cf (r.v::ls) env r.m):=Ys
@[simp] theorem ajI(z:cM)(i:Nat):xY z ls env i=some (.ptr i 0,some (j6 z)):=Ys
@[simp] theorem asH(x:OF)(i:Nat):uR x ls env i=some (.ptr i 0,some (j6 (x ls env).cells)):=Ys
@[simp] theorem ajJ(i:Nat):EU ls env i=some (.map i,some (.map [])):=Ys
@[simp] theorem ajK(l:cM):(j5.agg l).cells=l:=Ys
@[simp] theorem ajL(k:cJ)(n:Int):(j5.int k n).cells=[.int k n]:=Ys
@[simp] theorem ajM(s:List cL):(j5.str s).cells=[.str s]:=Ys
@[simp] theorem ajN(i o:Nat):(j5.ptr i o).cells=[.ptr i o]:=Ys
@[simp] theorem ajO(i:Nat):(j5.map i).cells=[.map i]:=Ys
@[simp] theorem cells_func(f:Fn)(a b:cM):(j5.func f a b).cells=[.func f a b]:=Ys
@[simp] theorem agG(a b c d:Nat):(j5.slice a b c d).cells=[.slice a b c d]:=Ys
@[simp] theorem adU(a b c d:Nat):(j5.sliceU a b c d).cells=[.sliceU a b c d]:=Ys
@[simp] theorem aaQ:j5.nilSlice.cells=[.nilSlice]:=Ys
@[simp] theorem akO(f:FuncId)(as:List OF):jZ f as cf ls env m=cf (.func f) (evs as ls env) m:=Ys
@[simp] theorem ajP(f:OF)(as:List OF):BK f as cf ls env m=aa7 cf m (evs as ls env) (f ls env):=Ys
@[simp] theorem ahx(as:cM)(f:FuncId)(a b:cM):aa7 cf m as (.func (.func f) a b)=cf (.func f) (a++(as++b)) m:=by show cf (.func f) (dK a (dK as b)) m=_;simp
end
@[simp] theorem akP(b:Bool):sJ true (.bool b)=b:=by cases b<;>rfl
@[simp] theorem ajQ(b:Bool):sJ false (.bool b)=!b:=by cases b<;>rfl
section
variable (w:Bool)(x:OF)(ls:cM)(env:T j5)(m:cD)
@[simp] theorem aw8(f:PF):gP x w f ls env=bi (sJ w (x ls env)) (f ls env) (some .undef):=Ys
@[simp] theorem atL(f:RF):kJ x w f ls env m=bi (sJ w (x ls env)) (f ls env m) (some .undef):=Ys
@[simp] theorem atM(f:LF)(i:Nat):gLk x w f ls env i=bi (sJ w (x ls env)) (f ls env i) (some (.undef,none)):=Ys
@[simp] theorem aw9(f:EF)(cf:G6):gE x w f cf ls env m=bi (sJ w (x ls env)) (f cf ls env m) (some [⟨.undef,m⟩]):=Ys
end
@[simp] theorem T.akQ{α:Type}(x:α)(t:T α)(i:Nat):T.rep x 0 t i=t:=Ys
attribute [simp] T.Jf T.cK T.iD
section
variable (cf:G6)(fu:Nat)(ir:Option Nat)(env:T j5)(m:cD)(k:List Mk)
@[simp] theorem asI(x:bQ):uo x env m k=some [⟨x,env,m,k,none⟩]:=Ys
@[simp] theorem ajR:qx cf fu ir env m k=some [⟨.normal,env,m,k,none⟩]:=Ys
@[simp] theorem akR(r:RC):dB r cf fu ir env m k=bnd (r cf [] env m) (oC k):=Ys
@[simp] theorem ajS:oC k ⟨env,m,none,[]⟩=some [⟨.normal,env,m,k,none⟩]:=Ys
@[simp] theorem ajT(n:Nat)(r:DC):rF n r cf fu ir env m k=bnd (r cf m.nx [] env (reserve n m) [reserve n m]) (oC k):=Ys
def adV(b:SC)(cf:G6)(fu:Nat)(ir:Option Nat)(o:Out):Option (List Out):=bQ.rec (b cf fu ir o.env o.m o.marks) (λ_=>some [o]) (some [o]) o.x
@[simp] theorem akS(a b:SC):dX a b cf fu ir env m k=bnd (a cf fu ir env m k) (adV b cf fu ir):=Ys
@[simp] theorem agH(b:SC)(p:Option j5):adV b cf fu ir ⟨.normal,env,m,k,p⟩=b cf fu ir env m k:=Ys
@[simp] theorem ajU(b:SC)(i:Nat)(p:Option j5):adV b cf fu ir ⟨.exit i,env,m,k,p⟩=some [⟨.exit i,env,m,k,p⟩]:=Ys
@[simp] theorem akT(b:SC)(p:Option j5):adV b cf fu ir ⟨.ret,env,m,k,p⟩=some [⟨.ret,env,m,k,p⟩]:=Ys
@[simp] theorem ajV(c:OF)(a b:SC):wm c a b cf fu ir env m k=rE (c [] env) λt=>bi t (a cf fu ir env m k) (b cf fu ir env m k):=Ys
def adW(id:Nat)(o:Out):Option (List Out):=bQ.rec (some [o]) (λid'=>bi (beq id id') (uo .normal o.env o.m o.marks) (some [o])) (some [o]) o.x
@[simp] theorem ahy(id:Nat)(a:SC):qF id a cf fu ir env m k=bnd (a cf fu ir env m k) (adW id):=Ys
@[simp] theorem agI(id:Nat)(p:Option j5):adW id ⟨.normal,env,m,k,p⟩=some [⟨.normal,env,m,k,p⟩]:=Ys
@[simp] theorem akU(id:Nat)(p:Option j5):adW id ⟨.ret,env,m,k,p⟩=some [⟨.ret,env,m,k,p⟩]:=Ys
@[simp] theorem ajW(id i:Nat)(p:Option j5):adW id ⟨.exit i,env,m,k,p⟩=bi (beq id i) (some [⟨.normal,env,m,k,none⟩]) (some [⟨.exit i,env,m,k,p⟩]):=Ys
@[simp] theorem ajX(a:SC):yI a cf fu ir env m k=I9 (λenv m k=>a cf fu ir env m k) fu env m k:=Ys
def Nb(f:T j5->cD->List Mk->Option (List Out))(o:Out):Option (List Out):=bQ.rec (f o.env o.m o.marks) (λ_=>some [o]) (some [o]) o.x
def o7(a:T j5->cD->List Mk->Option (List Out))(n:Nat):I9 a (n+1) env m k=bnd (a env m k) (Nb (I9 a n)):=rfl
@[simp] theorem adX(f:T j5->cD->List Mk->Option (List Out))(p:Option j5):Nb f ⟨.normal,env,m,k,p⟩=f env m k:=Ys
@[simp] theorem ahz(f:T j5->cD->List Mk->Option (List Out))(i:Nat)(p:Option j5):Nb f ⟨.exit i,env,m,k,p⟩=some [⟨.exit i,env,m,k,p⟩]:=Ys
@[simp] theorem ajY(f:T j5->cD->List Mk->Option (List Out))(p:Option j5):Nb f ⟨.ret,env,m,k,p⟩=some [⟨.ret,env,m,k,p⟩]:=Ys
@[simp] theorem ajZ(id:Nat):BM id cf fu ir env m k=some [⟨.exit id,env,m,k,none⟩]:=Ys
@[simp] theorem akV:rG cf fu ir env m k=some [⟨.ret,env,m,k,none⟩]:=Ys
end
section
variable (cf:G6)(b:Nat)(ls:cM)(env:T j5)(m:cD)(gs:List cD)(d:j5->T j5->T j5)(k:DC)(c:Nat)
attribute [simp] OX OY
@[simp] theorem akW:xZ cf b ls env m gs=some [⟨env,m,none,[]⟩]:=Ys
@[simp] theorem atN(f:PF):mE f d k cf b ls env m gs=ob (f ls env) λv=>k cf b (v::ls) (d v env) m gs:=Ys
@[simp] theorem atO(f:RF):yG f c d k cf b ls env m gs=ob (f ls env (hd m gs)) λv=>bi (stable f ls env v c (tl gs)) (k cf b (v::ls) (d v env) m gs) none:=Ys
@[simp] theorem atP(f:LF):dcL f c d k cf b ls env m gs=ob (f ls env (b+c)) λr=>bi (isVoid (m.get (b+c))) (bi (iC (b+c) gs) (k cf b (r.1::ls) (d r.1 env) (Ub m (b+c) r.2) gs) none) none:=Ys
@[simp] theorem atQ(f:EF)(a:GF):Uc f a d k cf b ls env m gs=Ua (f cf ls env m) λr=>iK r.v (λx=>bi (a (.undef::ls) (d .undef env)) (some [⟨env,r.m,some x,[]⟩]) none) (k cf b (r.v::ls) (d r.v env) r.m (r.m::gs)):=Ys
@[simp] theorem akX:Mj ls env=true:=Ys
@[simp] theorem atS:Ls ls env=false:=Ys
@[simp] theorem adY(g:cD):hd m (g::gs)=g:=Ys
@[simp] theorem asJ(g:cD):tl (g::gs)=gs:=Ys
@[simp] theorem YS(i:Nat)(x:Y9):Ub m i (some x)=m.set i x:=Ys
@[simp] theorem agJ:isVoid (some .void)=true:=Ys
@[simp] theorem agK(i:Nat):iC i []=true:=Ys
@[simp] theorem adZ(i:Nat)(g:cD):iC i (g::gs)=bi (isVoid (g.get i)) (iC i gs) false:=Ys
@[simp] theorem agL(f:RF)(v:j5):stable f ls env v 0 gs=true:=Ys
@[simp] theorem agM(f:RF)(v:j5)(n:Nat)(g:cD):stable f ls env v (n+1) (g::gs)=bi (Option.rec false (λu=>bg 100 u v) (f ls env g)) (stable f ls env v n gs) false:=Ys
end
@[simp] theorem aaR(env:T j5):gZ [] [] env=some env:=Ys
@[simp] theorem ZY(j:Option Nat)(a:List (Option Nat))(v:j5)(vs:cM)(env:T j5):gZ (j::a) (v::vs) env=gZ a vs (fA j v env):=Ys
@[simp] theorem ak0(a:ni)(rs:List rC)(env:T j5)(m:cD):leave a rs ⟨.ret,env,m,[],none⟩=ob (results rs env m) λl=>some [⟨result l,m⟩]:=Ys
@[simp] theorem ae0(a:ni)(rs:List rC)(env:T j5)(m:cD):leave a rs ⟨.normal,env,m,[],none⟩=ob (results rs env m) λl=>some [⟨result l,m⟩]:=Ys
@[simp] theorem agN(env:T j5)(m:cD):results [] env m=some []:=Ys
@[simp] theorem results_tmp(j:Nat)(rs:List rC)(env:T j5)(m:cD):results (.tmp j::rs) env m=ob (env.get j) λv=>ob (results rs env m) λl=>some (v::l):=Ys
@[simp] theorem ahA:result []=.tuple []:=Ys
@[simp] theorem ahB(v:j5):result [v]=v:=Ys
@[simp] theorem ahC(v x:j5)(l:cM):result (v::x::l)=.tuple (v::x::l):=Ys
structure cE(m m':cD):Prop where
 ok:T.Ok m'.t m'.nx
 nx:m.nx<=m'.nx
 lim:m'.lim=m.lim
 old:∀i,i<m.nx->m'.get i=m.get i
def cE.refl{m:cD}(h:T.Ok m.t m.nx):cE m m:=⟨h,aA _,rfl,λ_ _=>rfl⟩
variable {a:cD}
def cE.trans{b c:cD}(h:cE a b)(k:cE b c):cE a c:=
 ⟨k.ok,dn h.nx k.nx,k.lim.trans h.lim,λi d=>(k.old i (aP d h.nx)).trans (h.old i d)⟩
def cE.new{m:cD}(h:cE a m)(b:Y9):cE a (m.new b):=
 ⟨h.ok.push b,axt h.nx,h.lim,λi c=>by rw[cD.Q5 h.ok,aE (by have:=h.nx;omega)];exact h.old i c⟩
def cE.set{m:cD}(h:cE a m){i:Nat}(hi:i<m.nx)(hn:a.nx<=i)(b:Y9):cE a (m.set i b):=
 ⟨h.ok.put _ _ hi,h.nx,h.lim,λj c=>by rw[cD.R9 h.ok hi,aE Zs];exact h.old j c⟩
def cE.get{m:cD}(h:cE a m){i:Nat}{b:Y9}(d:T.Ok a.t a.nx)(c:a.get i=some b):m.get i=some b:=
 (h.old i (cD.Q9 d c)).trans c
def U5(m:cD)(v:j5)(xs:cQ):Prop:=
 (v=.nilSlice∧xs=[])∨∃p:Nat×Nat,((∃c,v=.slice p.1 p.2 xs.length c)∨∃es,v=.sliceU p.1 p.2 xs.length es)∧p.1<m.nx∧(xs=[]∨∃n cF,m.get p.1=some (.cells 1 n cF)∧p.2+xs.length<=n∧∀i (h:i<xs.length),cF.get (p.2+i)=some [.int .i64 xs[i]])
variable {xs:cQ}
def U5.ext{m b:cD}(h:cE m b){v:j5}(a:U5 m v xs):U5 b v xs:=by rcases a with a|⟨id,h1,h2,h3⟩;exact .inl a;refine .inr ⟨id,h1,aP h2 h.nx,?_⟩;rcases h3 with h3|⟨n,cF,h4,h5,h6⟩;exact .inl h3;exact .inr ⟨n,cF,(h.old id.1 h2).trans h4,h5,h6⟩
def WX{n i:Nat}{v:j5}(h:i<n)(a:cF.get i=some [v]):ld1 (some (.cells 1 n cF)) i=some v:=by have:=iw (rs:=1) (n:=n) (cF:=cF) (i:=i) (j:=0) Zs h a;rw[ahk]at this;exact this
def I4{i:Nat}(h:i<4611686018427387904):kY ((i:Int)+1)=((i+1:Nat):Int):=by rw[Z7 Zs Zs];rfl
def U5.at{m:cD}{v:j5}{xs:cQ}(h:U5 m v xs){i:Nat}(hi:i<xs.length):
   ∃q:Nat×Nat,xC v none (λid off len _=>idx len (.int .i64 i) λk=>some (j5.ptr id (off+k))) (λid off len _=>idx len (.int .i64 i) λk=>some (j5.ptr id (off+k)))=some (.ptr q.1 q.2)∧q.1<m.nx∧ld1 (m.get q.1) q.2=some (.int .i64 xs[i]):=by
 rcases h with⟨_,rfl⟩|⟨id,h1,h2,h3⟩;simp at hi;rcases h3 with rfl|⟨n,cF,h4,h5,h6⟩;simp at hi;refine⟨(id.1,id.2+i),?_,h2,by rw[h4];exact WX Zs (h6 i hi)⟩;rcases h1 with⟨c,rfl⟩|⟨c,rfl⟩;simp only[vI];rw[Z0 _ _ _ hi];simp only[rV];rw[Z0 _ _ _ hi]
def U5.cells{m:cD}{v:j5}(h:U5 m v xs):v.cells=[v]:=by rcases h with⟨rfl,rfl⟩|⟨id,⟨c,rfl⟩|⟨c,rfl⟩,_⟩<;>rfl
def U5.aL{m:cD}{v:j5}(h:U5 m v xs){β:Type}(p:j5->β)(q:β):iK v p q=q:=by rcases h with⟨rfl,rfl⟩|⟨id,⟨c,rfl⟩|⟨c,rfl⟩,_⟩<;>rfl
def U5.D8{m:cD}{v:j5}(h:U5 m v xs):Go.AM.D8 v=true:=by rcases h with⟨rfl,rfl⟩|⟨id,⟨c,rfl⟩|⟨c,rfl⟩,_⟩<;>rfl
def U5.len{m:cD}{v:j5}(h:U5 m v xs):xC v (some (j5.int .i64 0)) (λ_ _ n _=>some (.int .i64 n)) (λ_ _ n _=>some (.int .i64 n))=some (.int .i64 xs.length):=by rcases h with⟨rfl,rfl⟩|⟨id,⟨c,rfl⟩|⟨c,rfl⟩,_⟩<;>rfl
def U5.lenOf{m:cD}{v:j5}(h:U5 m v xs):Go.AM.lenOf v=some xs.length:=by rcases h with⟨rfl,rfl⟩|⟨id,⟨c,rfl⟩|⟨c,rfl⟩,_⟩<;>rfl
def ints(xs:cQ):cM:=xs.map (j5.int .i64)
def Ma{n:Nat}(h:∀i (h:i<xs.length),cF.get (off+i)=some [.int .i64 xs[i]])(hn:off+xs.length<=n):
   ∀(j i:Nat),i+j=xs.length->J7 1 n cF j (off+i)=some (ints (xs.drop i)):=by
 intro j;induction j with
 |zero=>intro i b;rw[su Zs];rfl
 |succ j ih=>
  intro i b;have a:i<xs.length:=Zs
  show ob (cell1 1 n cF (off+i)) (λv=>ob (J7 1 n cF j (off+i+1)) λl=>some (v::l))=_;have e:cell1 1 n cF (off+i)=some (.int .i64 xs[i]):=by
   have:=iw (rs:=1) (n:=n) (cF:=cF) (i:=off+i) (j:=0) Zs Zs (h i a)
   rwa [ahk]at this
  rw[e,show off+i+1=off+(i+1)from by omega,ih (i+1) Zs,zu a];rfl
def U5.read{m:cD}{v:j5}(h:U5 m v xs):Z8 m 1 xs.length v=some (ints xs):=by
 rcases h with⟨rfl,rfl⟩|⟨id,h1,h2,h3⟩;rfl;rcases h3 with rfl|⟨n,a,h4,h5,h6⟩;rcases h1 with⟨c,rfl⟩|⟨c,rfl⟩<;>rfl
 have b:Z6 m id.1 id.2 (Nat.mul xs.length 1)=some (ints xs):=by
  have e:Nat.mul xs.length 1=xs.length:=ahk _;rw[e];cases hx:xs.length with
  |zero=>rw[U1.1 hx];rfl
  |succ k=>show aY (m.get id.1) (λf d a=>J7 f d a (k+1) id.2)=_;have:=Ma h6 h5 (k+1) 0 Zs;rw[h4,dJ];exact this
 rcases h1 with⟨c,rfl⟩|⟨c,rfl⟩<;>exact b
def GR:∀(xs:cQ),rowsOf 1 xs.length (ints xs)=some (xs.map λx=>[j5.int .i64 x])
 |[]=>rfl
 |x::xs=>by show ob (takeN 1 (ints (x::xs))) (λr=>ob (rowsOf 1 xs.length (iA 1 (ints (x::xs)))) λrest=>some (r::rest))=_;have e:iA 1 (ints (x::xs))=ints xs:=rfl;rw[e,GR xs];rfl
def UK{m:cD}(a:T.Ok m.t m.nx)(xs:cQ):∃m',grown m 1 xs.length (ints xs)=some [⟨.sliceU m.nx 0 xs.length 1,m'⟩]∧cE m m'∧U5 m' (.sliceU m.nx 0 xs.length 1) xs:=by refine⟨m.new (.cells 1 xs.length (T.ofList (xs.map λx=>[j5.int .i64 x]))),?_,(cE.refl a).new _,.inr ⟨(m.nx,0),.inr ⟨1,rfl⟩,ZZ,.inr ⟨xs.length,_,by rw[cD.Q5 a,cg rfl],ZZ,λi b=>by rw[P7,T.bV];simp[b]⟩⟩⟩;show ob (rowsOf 1 xs.length (ints xs)) _=_;rw[GR];rfl
namespace T
variable {α:Type}
def ae1{t:T α}{n:Nat}(h:Ok t n):∀i (x y:α),i<=n->(t.put i x).put i y=t.put i y:=by
 induction h with
 |e=>intro i x y b;obtain rfl:i=0:=Zs
     rfl
 |@nd l r z n hl hr ihl ihr=>
  intro i x y b;cases i with
  |zero=>rfl
  |succ i=>rw[cK,cK];split;rename_i a;rw[cK,cg a,ihl _ _ _ Zs];rename_i a;rw[cK,aE a,ihr _ _ _ Zs]
def put_comm{t:T α}{n:Nat}(h:Ok t n):∀i (x y:α),i<n->(t.put n x).put i y=(t.put i y).put n x:=by
 induction h with
 |e=>intro i x y a;omega
 |@nd l r z n hl hr ihl ihr=>
  intro i x y a;cases i with
  |zero=>rw[cK,QO,cK];split<;>rfl
  |succ i=>
   rw[cK (i:=n),cK (i:=i)];by_cases hn:n%2=0;rw[cg hn,cK];by_cases h0:i%2=0;rw[cg h0,cg h0,cK,cg hn];have e:(n+1) / 2=n / 2:=Zs
   rw[e]at hl ihl;have:=ihl (i / 2) x y Zs;rw[this];rw[aE h0,aE h0,cK,cg hn];rw[aE hn,cK];by_cases h0:i%2=0;rw[cg h0,cg h0,cK,aE hn];rw[aE h0,aE h0,cK,aE hn];have:=ihr (i / 2) x y Zs;rw[this]
end T
def Eh{α:Type}{p:List α->Prop}(h0:p [])(hs:∀l b,p l->p (l++[b])):∀l,p l:=by
 intro l;have:p l.reverse.reverse:=by
  generalize l.reverse=r;induction r with
  |nil=>exact h0
  |cons x r ih=>rw[List.reverse_cons];exact hs _ _ ih
 rwa [List.reverse_reverse]at this
def ext(m:cD)(l:List Y9):cD:=l.foldl cD.new m
def o9(m:cD)(b:Y9):m.new b=ext m [b]:=rfl
def A8(m:cD)(l a:List Y9):ext (ext m l) a=ext m (l++a):=by simp[ext]
def ext_nil(m:cD):ext m []=m:=rfl
def jF(m:cD)(l:List Y9)(b:Y9):ext m (l++[b])=(ext m l).new b:=by simp[ext]
@[simp] theorem RV(m:cD)(l:List Y9):(ext m l).nx=m.nx+l.length:=by
 induction l using Eh with
 |h0=>rfl
 |hs l b ih=>rw[jF,cD.QU,ih];simp;omega
@[simp] theorem Ay(m:cD)(l:List Y9):(ext m l).lim=m.lim:=by
 induction l using Eh with
 |h0=>rfl
 |hs l b ih=>rw[jF,cD.adw,ih]
def I7{m:cD}(a:m.Ok)(l:List Y9):(ext m l).Ok:=by
 induction l using Eh with
 |h0=>exact a
 |hs l b ih=>rw[jF];exact ih.new b
def ext_get{m:cD}(a:m.Ok)(l:List Y9)(i:Nat):(ext m l).get i=if i<m.nx then m.get i else l[i-m.nx]?:=by
 induction l using Eh with
 |h0=>
  rw[ext_nil];split;rfl;cases h:m.get i with
  |none=>simp
  |some b=>have:=cD.Q9 a h;omega
 |hs l b ih=>rw[jF,cD.Q5 (I7 a l),ih,RV];by_cases h1:i<m.nx;rw[aE Zs,cg h1,cg h1];rw[aE h1,aE h1];by_cases h2:i=m.nx+l.length;rw[cg h2,ahf Zs,show i-m.nx-l.length=0 from by omega];rfl;rw[aE h2];by_cases h3:i-m.nx<l.length;rw[adl h3];rw[ajn Zs,ajn ZD]
def r9{m:cD}(a:m.Ok)(l:List Y9)(c:Nat):(ext m l).get (m.nx+c)=l[c]?:=by rw[ext_get a,aE Zs,show m.nx+c-m.nx=c from by omega]
def l8{m:cD}(a:m.Ok)(l:List Y9):(ext m l).get m.nx=l[0]?:=r9 a l 0
def H6{m:cD}(a:m.Ok)(l:List Y9){i:Nat}(h:i<m.nx):(ext m l).get i=m.get i:=by rw[ext_get a,cg h]
def o8{m:cD}(a:m.Ok)(l:List Y9):cE m (ext m l):=⟨I7 a l,ZZ,ZZ,λi b=>H6 a l b⟩
def cD.WY{m:cD}(c:m.Ok)(a b:Y9):(m.new a).set m.nx b=m.new b:=by show(⟨(m.t.put m.nx a).put m.nx b,_,_⟩:cD)=_;rw[T.ae1 c _ _ _ (aA _)];rfl
def cD.RX{m:cD}(c:m.Ok)(a b:Y9){i:Nat}(h:i<m.nx):(m.new a).set i b=(m.set i b).new a:=by show(⟨(m.t.put m.nx a).put i b,_,_⟩:cD)=⟨(m.t.put i b).put m.nx a,_,_⟩;rw[T.put_comm c _ _ _ h];rfl
def pY{m:cD}(d:m.Ok)(l:List Y9)(c:Nat)(b:Y9)(h:c<l.length):(ext m l).set (m.nx+c) b=ext m (l.set c b):=by
 induction l using Eh with
 |h0=>simp at h
 |hs l a ih=>
  rw[jF];by_cases h1:c<l.length;rw[cD.RX (I7 d l) _ _ (by rw[RV];omega),ih h1,List.set_append_left _ _ h1,jF];have:c=l.length:=by simp at h;omega
  subst this;have e:m.nx+l.length=(ext m l).nx:=ZZ
  rw[e,cD.WY (I7 d l),avS _ _ (aA _)];simp[jF]
def qO{m:cD}(a:m.Ok)(l:List Y9)(b:Y9)(h:0<l.length):(ext m l).set m.nx b=ext m (l.set 0 b):=pY a l 0 b h
end
end Go.AM
namespace Go.AM
open Go
open Nat (beq ble blt)
variable {α:Type}
def mM(a b:Nat)(x y:α):bi (beq a b) x y=if a=b then x else y:=yV a b x y
def Nc(a b:Nat)(x y:α):bi (ble a b) x y=if a<=b then x else y:=by
 cases h:ble a b with
 |true=>rw[cg (D5 h)];rfl
 |false=>rw[aE (λc=>by rw[l7 c]at h;cases h)];rfl
def YT(a b:Nat)(x y:α):bi (blt a b) x y=if a<b then x else y:=Nc (a+1) b x y
def jf(ls:cM)(env:T j5)(p:Nat×Nat×OF)(l:List (Nat×Nat×OF))(cs:cM):lay (p::l) ls env cs =
   if(p.2.2 ls env).cells.length=p.2.1 then if p.1+p.2.1<=cs.length then lay l ls env (cs.take p.1++((p.2.2 ls env).cells++cs.drop (p.1+(p.2.2 ls env).cells.length)))else none else none:=by
 rw[aaP,mM,K7,K7];split;rename_i h;show bi (ble (p.1+p.2.1) cs.length) _ _=_;rw[Nc];split;rename_i a;rw[pU _ _ _ Zs];rfl;rfl
def aW(b:Nat)(a x:OF)(cf:G6)(ls:cM)(env:T j5)(m:cD):kZ b a x cf ls env m=pO (a ls env) λid off=>
   if(x ls env).cells.length=b then storeAt m id off (x ls env).cells λm'=>some [⟨.undef,m'⟩]else none:=by
 rw[YR];simp only[mM]
def Fz{β:Type}{m:cD}(a:m.Ok)(d:m.lim<=m.nx)(l:List Y9)(c off:Nat)(vs:cM)(k:cD->Option β):
   storeAt (ext m l) (m.nx+c) off vs k=bi (H8 vs) (ob (ZX l[c]? off vs) λb=>k (ext m (l.set c b))) none:=by
 cases h1:H8 vs with
 |false=>unfold storeAt;rw[h1];cases blt (m.nx+c) (ext m l).lim<;>rfl
 |true=>rw[bI (by rw[Ay];omega) h1,r9 a,aC];by_cases hc:c<l.length;congr 1;funext b;rw[pY a _ _ _ hc];rw[ajn Zs];rfl
def zA{β:Type}{m:cD}(c:m.Ok)(a:m.lim<=m.nx)(l:List Y9)(off:Nat)(vs:cM)(k:cD->Option β):
   storeAt (ext m l) m.nx off vs k=bi (H8 vs) (ob (ZX l[0]? off vs) λb=>k (ext m (l.set 0 b))) none:=Fz c a l 0 off vs k
@[simp] theorem ae2(j:Nat)(k:Nat)(rs:List rC)(env:T j5)(m:cD):results (.cell j (some k)::rs) env m=ob (ob (env.get j) λp=>pO p λid off=>RU (m.get id) off k) λv=>ob (results rs env m) λl=>some (v::l):=id rfl
@[simp] theorem adk(j:Nat)(rs:List rC)(env:T j5)(m:cD):results (.cell j none::rs) env m=ob (ob (env.get j) λp=>pO p λid off=>ld1 (m.get id) off) λv=>ob (results rs env m) λl=>some (v::l):=id rfl
end Go.AM
namespace Go.AM
open Go
open Nat (beq ble blt)
section
variable {α β:Type}
@[congr] theorem akY{b b':Bool}{x a y y':α}(hb:b=b')(c:b'=true->x=a)(d:b'=false->y=y'):bi b x y=bi b' a y':=by
 subst hb;cases b with
 |true=>exact c rfl
 |false=>exact d rfl
@[simp] theorem asK(b:Bool)(x:α):bi b x x=x:=by cases b<;>rfl
def gW(b:Bool)(x y:α)(k:α->Option β):ob (bi b (some x) (some y)) k=k (bi b x y):=by cases b<;>rfl
def jX(b:Bool)(x y:α)(k:α->Option (List β)):bnd (bi b (some [x]) (some [y])) k=k (bi b x y):=by cases b<;>rfl
def jG(b:Bool)(x y:α)(k:α->Option β):Ua (bi b (some [x]) (some [y])) k=k (bi b x y):=by cases b<;>rfl
end
@[simp] theorem agO(b c:Bool):bi b (j5.bool c) (j5.bool false)=.bool (b&&c):=by cases b<;>rfl
@[simp] theorem asL{β:Type}(b:Bool)(v w:j5)(p:j5->β)(q:β):iK (bi b v w) p q=bi b (iK v p q) (iK w p q):=by cases b<;>rfl
end Go.AM
namespace Go.AM
open Go
open Nat (beq ble blt)
section
variable {α:Type}(a b c:Bool)(x y z:α)
@[simp] theorem asM:bi b (bi b x y) z=bi b x z:=by cases b<;>rfl
end
end Go.AM
namespace Go.AM
open Go
open Nat (beq ble blt)
@[simp] theorem awc(b:Bool)(f a:T j5)(m d:cD)(p e:Option j5)(k c:List Mk):bi b (⟨f,m,p,k⟩:EM) ⟨a,d,e,c⟩=⟨bi b f a,bi b m d,bi b p e,bi b k c⟩:=by cases b<;>rfl
@[simp] theorem awd(b:Bool)(l a r c:T j5)(x d:j5):bi b (T.nd l x r) (T.nd a d c)=.nd (bi b l a) (bi b x d) (bi b r c):=by cases b<;>rfl
@[simp] theorem atT(b:Bool)(v w:j5)(m a:cD):bi b (⟨v,m⟩:VM) ⟨w,a⟩=⟨bi b v w,bi b m a⟩:=by cases b<;>rfl
end Go.AM
namespace Go.AM
open Go
open Nat (beq ble blt)
@[simp] theorem ak1(w:Bool):sJ w .undef=false:=id rfl
def qd{i:Nat}(h0:0<i)(h:i<4611686018427387904):kY ((i:Int)-1)=((i-1:Nat):Int):=by rw[Z7 Zs Zs];omega
def Z9(p:Nat->Bool):Nat->Nat->Bool
 |0,_=>true
 |j+1,i=>p i&&Z9 p j (i+1)
def okB(xs:cQ)(i:Nat):Bool:=(decide (1<=xs.getD i 0)&&decide (xs.getD i 0<=1099511627776))&&(decide (i=0)||decide (xs.getD (i-1) 0<xs.getD i 0))
def kR{xs:cQ}{i:Nat}(h:i<xs.length):xs.getD i 0=xs[i]:=by simp[List.getD,h]
end Go.AM
namespace Go.AM
open Go
open Nat (beq ble blt)
@[simp] theorem ak2(c:List PK)(a b:cM):gy c (.agg a) (.agg b)=gu c a b:=id rfl
@[simp] theorem ak3:gu [] [] []=some true:=id rfl
@[simp] theorem ak4(k:PK)(c:List PK)(x y:j5)(a b:cM):gu (k::c) (x::a) (y::b)=ob (QB k x y) λr=>bi r (gu c a b) (some false):=id rfl
@[simp] theorem atU:QB .i=jQ:=id rfl
@[simp] theorem akZ(k:cJ)(a b:Int):jQ (.int k a) (.int k b)=some (decide (a=b)):=by show bi (kEq k k) (some (qC a b)) none=_;rw[JU,ny,show(a==b)=decide (a=b)from rfl];rfl
@[simp] theorem agP(b c:Bool):bi b (some c) (some false)=some (b&&c):=by cases b<;>rfl
def G8(n:Nat)(k:cJ)(i:Int):bg (n+1) (.int k i) (.int k i)=true:=by show bi (kEq k k) (qC i i) false=true;rw[JU,ny];simp
def gG{m:cD}{v:j5}{xs:cQ}(h:U5 m v xs)(n:Nat):bg (n+1) v v=true:=by rcases h with⟨rfl,rfl⟩|⟨id,⟨c,rfl⟩|⟨c,rfl⟩,_⟩;rfl;show bi (beq id.1 id.1) (bi (beq id.2 id.2) (bi (beq _ _) (beq _ _) false) false) false=true;simp[mM];show bi (beq id.1 id.1) (bi (beq id.2 id.2) (bi (beq _ _) (beq _ _) false) false) false=true;simp[mM]
def FB(f:j5->j5->Bool)(x y:j5)(a b:cM):wh f (x::a) (y::b)=bi (f x y) (wh f a b) false:=rfl
def JV(f:j5->j5->Bool):wh f [] []=true:=rfl
def vJ(n:Nat)(a b:cM):bg (n+1) (.agg a) (.agg b)=wh (bg n) a b:=rfl
end Go.AM
namespace Go.AM
open Go
open Nat (beq ble blt)
variable {a v:j5}
section
variable {α β:Type}
@[congr] theorem awe{o a:Option α}{k:α->Option β}(h:o=a):ob o k=ob a k:=by rw[h]
@[congr] theorem atV{o a:Option (List α)}{k:α->Option (List β)}(h:o=a):bnd o k=bnd a k:=by rw[h]
@[congr] theorem asN{o a:Option (List α)}{k:α->Option β}(h:o=a):Ua o k=Ua a k:=by rw[h]
@[congr] theorem asO{p:j5->β}{q:β}(h:v=a):iK v p q=iK a p q:=by rw[h]
@[congr] theorem asP{k:Nat->Nat->Option β}(h:v=a):pO v k=pO a k:=by rw[h]
@[congr] theorem asQ{k:cJ->Int->Option β}(h:v=a):xL v k=xL a k:=by rw[h]
@[congr] theorem al0{k:Bool->Option β}(h:v=a):rE v k=rE a k:=by rw[h]
@[congr] theorem asR{k:cM->Option β}(h:v=a):EL v k=EL a k:=by rw[h]
@[congr] theorem asS{k:cM->Option β}(h:v=a):Qw v k=Qw a k:=by rw[h]
@[congr] theorem asT{k:List cL->Option β}(h:v=a):xM v k=xM a k:=by rw[h]
end
end Go.AM
namespace Go.AM
open Go
open Nat (beq ble blt)
section
variable {α β:Type}
@[simp high] theorem ak5 (a:α)(k:α->Option β):ob (some a) k=k a:=id rfl
@[simp high] theorem ak6 (k:α->Option β):ob none k=none:=id rfl
@[simp high] theorem ak7 (x y:α):bi true x y=x:=id rfl
@[simp high] theorem ahD (x y:α):bi false x y=y:=id rfl
@[simp high] theorem ahE (l:T α)(x:α)(r:T α):(T.nd l x r).get 0=some x:=id rfl
@[simp high] theorem asU (i:Nat)(x:α):(T.e:T α).put i x=.nd .e x .e:=id rfl
@[simp high] theorem ahF (x:α)(n:Nat)(t:T α)(i:Nat):T.rep x (n+1) t i=T.rep x n (t.put i x) (i+1):=id rfl
@[simp high] theorem aaS (m:cD):reserve 0 m=m:=id rfl
@[simp high] theorem aaT (n:Nat)(m:cD):reserve (n+1) m=reserve n (m.new .void):=id rfl
@[simp high] theorem ahG (m:cD)(b:Y9):(m.new b).nx=m.nx+1:=id rfl
@[simp high] theorem ak8 (m:cD)(b:Y9):(m.new b).lim=m.lim:=id rfl
@[simp high] theorem ahH (m:cD)(i:Nat)(b:Y9):(m.set i b).nx=m.nx:=id rfl
@[simp high] theorem ak9 (m:cD)(i:Nat)(b:Y9):(m.set i b).lim=m.lim:=id rfl
end
end Go.AM
namespace Go.AM
open Go
open Nat (beq ble blt)
@[simp] theorem agQ:bg 100 .undef .undef=true:=id rfl
end Go.AM
namespace Go.AM
open Go
open Nat (beq ble blt)
def zB(k:cJ)(a b:Nat)(h:b≠0):EO k (a:Int) (b:Int)=some (.int k ((a%b:Nat):Int)):=by
 cases b with
 |zero=>exact cj rfl h
 |succ b=>rfl
end Go.AM
namespace Go.AM
open Go
open Nat (beq ble blt)
variable {β:Type}
def RY{es:Nat}{a:cM}(h:a.length=es)(k:Y9->Option β):jR es 1 a k=k (j6 a):=by show ob (ob (takeN es a) λr=>ob (rowsOf es 0 (iA es a)) λb=>some (r::b)) (λc=>k (.cells es 1 (T.ofList c)))=_;rw[iL _ _ Zs,I6,fC,su Zs,P9 Zs];show k (.cells es 1 (.nd .e a .e))=k (.cells (len' a) 1 (.nd .e a .e));rw[K7,h]
def I5(es:Nat)(zero:cM)(ps:List (Nat×Nat×OF))(ls:cM)(env:T j5)(nid:Nat)(e:zero.length=es):J2 es 1 zero ps ls env nid=ob (lay ps ls env zero) λcells=>if cells.length=es then some (.slice nid 0 1 1,some (j6 cells))else none:=by
 show ob (lay ps ls env (dK zero [])) (λcells=>jR es 1 cells λb=>some (j5.slice nid 0 1 1,some b))=_;rw[V9,agA];congr 1;funext cells;split;rename_i h;rw[RY h];rename_i h;show ob (ob (takeN es cells) λr=>ob (rowsOf es 0 (iA es cells)) λa=>some (r::a)) _=none;cases ht:takeN es cells with
 |none=>rfl
 |some r=>
  let⟨c,d⟩:=oF _ _ _ ht;rw[I6,fC];cases hd:cells.drop es with
  |nil=>have:=List.drop_eq_nil_iff.1 hd;omega
  |cons x xs=>rfl
@[simp] theorem al1(len:Nat)(k:Nat->Option β):idx len (.int .i64 0) k=if 0<len then k 0 else none:=by show bi (blt 0 len) (k 0) none=_;rw[YT]
noncomputable def msB (b:Option Y9)(f:IL)(n:Nat)(k x:j5):Option Y9:=
 ZT b λes=>ob (gD f n k es) λr=>Option.rec (some (.map (es++[(k,x)]))) (λp=>ob es[p.1]? λe=>bi (beq e.1.cells.length n) (some (.map (mZ es k x p.1))) none) r
def Cm(f:IL)(n:Nat)(mp k x:OF)(cf:G6)(ls:cM)(env:T j5)(m:cD):vY f n mp k x cf ls env m=Ba (mp ls env) none λid=>bi (blt id m.lim) none (ob (msB (m.get id) f n (k ls env) (x ls env)) λb=>some [⟨.undef,m.set id b⟩]):=by
 show Ba (mp ls env) none (λid=>bi (blt id m.lim) none _)=_;congr 1;funext id;congr 1;unfold msB;match m.get id with
 |some (.map es)=>
  show ob (gD f n (k ls env) es) _=ob (ob (gD f n (k ls env) es) _) _;cases gD f n (k ls env) es with
  |none=>rfl
  |some r=>
   cases r with
   |none=>simp[V9];rfl
   |some p=>
    simp only[I6];show ob (vU p.1 es) _=ob (ob es[p.1]? _) _;rw[nu];cases es[p.1]? with
    |none=>rfl
    |some e=>simp only[I6,K7];cases beq e.1.cells.length n<;>rfl
 |some .void|some .dead|some (.cells ..)|some (.iter ..)|some (.tail _)|some (.loop ..)|some .deferred|none=>rfl
@[congr] theorem asV{v a:j5}{z:Option β}{k:Nat->Option β}(h:v=a):Ba v z k=Ba a z k:=by rw[h]
def WZ{m:cD}(a:m.lim<=m.nx)(l:List Y9)(c:Nat):blt (m.nx+c) (ext m l).lim=false:=by
 rw[Ay];cases h:blt (m.nx+c) m.lim with
 |false=>rfl
 |true=>have:=O8.mp h;omega
def Ei{m:cD}(a:m.lim<=m.nx)(l:List Y9):blt m.nx (ext m l).lim=false:=WZ a l 0
def Ph(es:List (j5×j5))(f:IL)(n:Nat)(k x:j5):msB (some (.map es)) f n k x=ob (gD f n k es) λr=>Option.rec (some (.map (es++[(k,x)]))) (λp=>ob es[p.1]? λe=>bi (beq e.1.cells.length n) (some (.map (mZ es k x p.1))) none) r:=rfl
def wO(f:IL)(n:Nat)(k:j5):gD f n k []=bi (beq (len' k.cells) n) (ob (f k k) λ_=>some none) none:=rfl
def U8(f:IL)(n:Nat)(k:j5)(e:j5×j5)(es:List (j5×j5)):gD f n k (e::es)=bi (beq (len' k.cells) n) (findKey f k (e::es) 0) none:=rfl
@[simp] theorem ahI(f:OF)(b:List (Option Nat))(a d:bM)(cf:G6)(e:Nat)(env:T j5)(m:cD)(k:List Mk):Ai f b a d cf e none env m k=Ud cf (f [] env) b a d env (m.new .deferred) (.c m.nx::k):=id rfl
@[simp] theorem akb(cf:G6)(f:FuncId)(a b:cM)(params:List (Option Nat))(assign body:bM)(env:T j5)(m:cD)(k:List Mk):Ud cf (.func (.func f) a b) params assign body env m k =
  bnd (cf (.func f) (a++(.func (.yield m.nx) [] []::b)) (m.new (.loop .ready none env params assign body))) λr=>iK r.v (λ_=>none) <|
   sS (r.m.get m.nx) λst pend _ _ _ _=>match st with
    |.busy=>none
    |_=>match pend with
     |none=>uo .normal env (r.m.set m.nx .dead) k
     |some x=>uo x env (r.m.set m.nx .dead) k:=by
 show bnd (cf (.func f) (dK a (dK [.func (.yield m.nx) [] []] b)) _) _=_;rw[V9,V9];rfl
@[simp] theorem al2(c:LoopState)(a:Option bQ)(env:T j5)(ps:List (Option Nat))(b bd:bM)(f:LoopState->Option bQ->T j5->List (Option Nat)->bM->bM->Option β):sS (some (.loop c a env ps b bd)) f=f c a env ps b bd:=id rfl
def ae3(a:ni)(rs:List rC)(env:T j5)(m:cD)(id:Nat)(h:m.get id=some .deferred):leave a rs ⟨.ret,env,m,[.c id],none⟩=ob (results rs env (m.set id .dead)) λl=>some [⟨result l,m.set id .dead⟩]:=by show aac (m.get id) _=_;rw[h];rfl
end Go.AM
namespace Go.AM
open Go
open Nat (beq ble blt)
variable {β:Type}
def Cn{m:cD}{id:Nat}(a:m.lim<=id)(off:Nat)(vs:cM)(k:cD->Option β):storeAt m id off vs k=bi (H8 vs) (ob (ZX (m.get id) off vs) λb=>k (m.set id b)) none:=by
 cases h1:H8 vs with
 |true=>rw[bI a h1];rfl
 |false=>unfold storeAt;rw[h1];cases blt id m.lim<;>rfl
def Pj(P:cH):List Field->Nat->Nat->Bool
 |[],o,n=>beq o n
 |f::fs,o,n=>beq f.offset o&&Pj P fs (o+P.cellsOf f.type) n
def JW(P:cH):Nat->cI->Bool
 |0,_=>false
 |n+1,t=>match P.underlying t with
  |some .bool=>true
  |some (.int _)=>true
  |some .string=>true
  |some (.slice e)=>JW P n e&&blt 0 (P.cellsOf e)
  |some (.struct fs)=>fs.toList.all (λf=>JW P n f.type)&&Pj P fs.toList 0 (P.cellsOf t)
  |_=>false
def Ng(S:cI->cM->Prop):List Field->cM->Prop
 |[],vs=>vs=[]
 |f::fs,vs=>∃a b,vs=a++b∧S f.type a∧Ng S fs b
def Bf(P:cH)(m:cD):Nat->cI->cM->Prop
 |0,_,_=>False
 |n+1,t,vs=>match P.underlying t with
  |some .bool=>∃b,vs=[.bool b]
  |some (.int k)=>∃i,vs=[.int k i]∧(Lit.int k i).wf=true
  |some .string=>∃s:List cL,vs=[.str s]∧s.length<=maxLen
  |some (.slice e)=>vs=[.nilSlice]∨∃id len cap,vs=[.slice id 0 len cap]∧len<=cap∧cap<=maxLen∧
   ((cap=0∧m.get id=some .dead)∨∃cF,0<cap∧m.get id=some (.cells (P.cellsOf e) cap cF)∧∀i,i<cap->∃row,cF.get i=some row∧row.length=P.cellsOf e∧Bf P m n e row)
  |some (.struct fs)=>Ng (Bf P m n) fs.toList vs
  |_=>False
def JX{S S':cI->cM->Prop}(h:∀t vs,S t vs->S' t vs):∀fs vs,Ng S fs vs->Ng S' fs vs
 |[],_,hv=>hv
 |_::fs,_,⟨a,b,e,h1,h2⟩=>⟨a,b,e,h _ _ h1,JX h fs b h2⟩
def JY{P:cH}{m d:cD}(h:∀i b,m.get i=some b->d.get i=some b):∀n t vs,Bf P m n t vs->Bf P d n t vs:=by
 intro n;induction n with
 |zero=>intro t vs a;exact a
 |succ n ih=>
  intro t vs a;unfold Bf at a ⊢;split at a;exact a;exact a;exact a;rcases a with a|⟨id,len,cap,h1,h2,h3,h4⟩;exact .inl a;refine .inr ⟨id,len,cap,h1,h2,h3,?_⟩;rcases h4 with⟨h4,h5⟩|⟨cF,h4,h5,h6⟩;exact .inl ⟨h4,h _ _ h5⟩;exact .inr ⟨cF,h4,h _ _ h5,λi j=>by
   let⟨c,e,f,g⟩:=h6 i j;exact⟨c,e,f,ih _ _ g⟩⟩
  exact JX (λt vs=>ih t vs) _ _ a;exact a
variable {ι':Q0}{a b:cD}
section
variable {P:cH}{G:cD}{hp:Array Obj}
def cD.zC(m:cD)(i:Nat):m.shut.get i=m.get i:=rfl
def RM.push{ι:Q0}{m:cD}(h:RM P G ι m hp)(s:m.lim=m.nx){b:Y9}{l:Loc}(p:jU b=false)(hs:bN b=true->l.spot=none)
   (hb:iF P (ι.upd m.nx l) ((m.new b).nm (ι.upd m.nx l)) hp l b):RM P G (ι.upd m.nx l) (m.new b).shut hp:=by
 have c:∀i,(m.new b).shut.get i=if i=m.nx then some b else m.get i:=λi=>cD.Q5 h.ok b i
 have o:∀i x,m.get i=some x->i≠m.nx:=λi x a e=>by have:=cD.Q9 h.ok a;omega
 have d:∀j,m.has j->ι.upd m.nx l j=ι j:=λj ⟨x,a,_⟩=>ι.upd_ne l (o j x a);have g:∀i,m.has i->(m.new b).shut.has i:=λi ⟨x,a,p⟩=>⟨x,by rw[c,aE (o i x a)];exact a,p⟩;have r:G.nx<=m.nx:=dn h.glim h.limn;refine⟨h.ok.push b,λi x a=>?_,λi x f a _=>?_,?_,aA _,h.gle,λi f=>?_,λi f=>g i (h.ghas i f),λi f=>?_,λi x a k=>?_,h.gsz⟩;rw[c]at a;split at a;rename_i e;subst e;cases a;rw[ι.aF];exact hb;rename_i e;rw[ι.upd_ne l e];exact(h.blk i x a).mono (n:=m.nm ι) d (cD.dL g d) λ_=>rfl;have q:=cD.Q9 (m:=(m.new b).shut) (h.ok.push b) a;have f:(m.new b).shut.nx<=i:=f;omega;show G.nx<=m.nx+1;omega;rw[c,aE Zs];exact h.base i f;rw[d i (h.ghas i f)];exact h.glob i f;rw[c]at a;split at a;rename_i e;subst e;cases a;rw[ι.aF];exact hs k;rename_i e;rw[ι.upd_ne l e];exact h.spot i x a k
structure Lifts(P:cH)(G:cD)(hp:Array Obj)(ι:Q0)(m:cD)(ι':Q0)(m':cD):Prop where
 rm:RM P G ι' m' hp
 lim:m'.lim=m'.nx
 get:∀i b,m.get i=some b->m'.get i=some b
 ext:∀i,m.has i->ι' i=ι i
def Lifts.refl{ι:Q0}{m:cD}(h:RM P G ι m hp)(a:m.lim=m.nx):Lifts P G hp ι m ι m:=⟨h,a,λ_ _ h=>h,λ_ _=>rfl⟩
def Lifts.has{ι:Q0}{m:cD}(h:Lifts P G hp ι m ι' a)(i:Nat)(hi:m.has i):a.has i:=by let⟨x,b,c⟩:=hi;exact⟨x,h.get i x b,c⟩
def Lifts.trans{a ι2 c:Q0}{e f m3:cD}(h:Lifts P G hp a e ι2 f)(k:Lifts P G hp ι2 f c m3):Lifts P G hp a e c m3:=
 ⟨k.rm,k.lim,λi b g=>k.get i b (h.get i b g),λi d=>(k.ext i (h.has i d)).trans (h.ext i d)⟩
def Lifts.u7{ι:Q0}{m:cD}(h:Lifts P G hp ι m ι' b){vs:cM}(a:fD (m.nm ι) vs):A9 ι' vs=A9 ι vs:=jg (n:=m.nm ι) h.ext vs a
def Lifts.lt{ι:Q0}{m:cD}(h:Lifts P G hp ι m ι' a){vs:cM}(b:fD (m.nm ι) vs):fD (a.nm ι') vs:=iW (cD.dL h.has h.ext) vs b
def Lifts.push{ι:Q0}{m:cD}(h:RM P G ι m hp)(d:m.lim=m.nx){b:Y9}{l:Loc}(f:jU b=false)(hs:bN b=true->l.spot=none)
   (hb:iF P (ι.upd m.nx l) ((m.new b).nm (ι.upd m.nx l)) hp l b):Lifts P G hp ι m (ι.upd m.nx l) (m.new b).shut:=by
 have c:∀i x,m.get i=some x->i≠m.nx:=λi x a e=>by have:=cD.Q9 h.ok a;omega
 exact⟨h.push d f hs hb,rfl,λi x a=>by rw[cD.zC,cD.Q5 h.ok,aE (c i x a)];exact a,λj ⟨x,a,_⟩=>ι.upd_ne l (c j x a)⟩
def Gets(P:cH)(G:cD)(hp:Array Obj)(ι:Q0)(m:cD)(cs:List Value)(S:cD->cM->Prop):Prop:=
 ∃ι' m' vs,Lifts P G hp ι m ι' m'∧A9 ι' vs=cs∧fD (m'.nm ι') vs∧S m' vs
variable {H:Type}{enc:cI×Value->H}{w:cG}{held:Bool}
def RZ{cs:List Value}{S:cD->cI->cM->Prop}(v:∀m m' t vs,(∀i b,m.get i=some b->m'.get i=some b)->S m t vs->S m' t vs):
   ∀(fs:List Field) (o:Nat),(∀f∈fs,∀ι m,RM P G ι m hp->m.lim=m.nx->Gets P G hp ι m ((cs.drop f.offset).take (P.cellsOf f.type)) (λm' vs=>S m' f.type vs))->Pj P fs o cs.length=true->
    ∀ι m,RM P G ι m hp->m.lim=m.nx->Gets P G hp ι m (cs.drop o) (λm' vs=>Ng (S m') fs vs):=by
 intro fs;induction fs with
 |nil=>intro o _ c ι m j h;have:o=cs.length:=nA c;exact⟨ι,m,[],Lifts.refl j h,by rw[this];simp[A9],trivial,rfl⟩
 |cons f fs ih=>intro o p c ι m j h;simp only[Pj,oo]at c;have u:f.offset=o:=nA c.1;let⟨k,z,a,e,r,n,s⟩:=p f ZZ ι m j h;let⟨l,A,b,d,w,x,y⟩:=ih (o+P.cellsOf f.type) (λq g=>p q (by simp[g])) c.2 k z e.rm e.lim;refine⟨l,A,a++b,e.trans d,?_,lW (d.lt n) x,a,b,rfl,v _ _ _ _ d.get s,y⟩;rw[nE,d.u7 n,r,w,u,← ajs,atb]
def YU{n ce:Nat}{row:Nat->List Value}{S:cD->cM->Prop}(q:∀m m' vs,(∀i b,m.get i=some b->m'.get i=some b)->S m vs->S m' vs)
   (h:∀i,i<n->∀ι m,RM P G ι m hp->m.lim=m.nx->Gets P G hp ι m (row i) S):∀c,c<=n->∀ι m,RM P G ι m hp->m.lim=m.nx->
    ∃(ι':Q0) (m':cD) (rl:List cM),Lifts P G hp ι m ι' m'∧rl.length=c∧∀i r,rl[i]?=some r->A9 ι' r=row i∧fD (m'.nm ι') r∧S m' r:=by
 intro c;induction c with
 |zero=>intro _ ι m g f;exact⟨ι,m,[],Lifts.refl g f,rfl,λi r a=>by simp at a⟩
 |succ c ih=>
  intro A ι m g f;let⟨j,v,rl,e,o,p⟩:=ih Zs ι m g f;let⟨k,w,r,d,s,t,u⟩:=h c Zs j v e.rm e.lim;refine⟨k,w,rl++[r],e.trans d,by simp[o],λi z a=>?_⟩;by_cases hi:i<rl.length;rw[adl hi]at a;let⟨x,l,y⟩:=p i z a;exact⟨by rw[d.u7 l,x],d.lt l,q _ _ _ d.get y⟩;rw[ahf Zs]at a;have:i-rl.length=0:=by have:=(gB.1 a).1;simp at this;omega
  rw[this]at a;simp at a;subst a;rw[show i=c from by omega];exact⟨s,t,u⟩
def lift(k:Nat):∀(n:Nat) (t:cI) (cs:List Value) (x:DataW H×List MemPlace),DataW.trod enc P w 0 (λ_=>true) held n t cs=some x->JW P k t=true->
   ∀ι m,RM P G ι m w.heap->m.lim=m.nx->Gets P G w.heap ι m cs (λm' vs=>Bf P m' k t vs):=by
 induction k with
 |zero=>intro n t cs x _ h;cases h
 |succ k ih=>
  intro n t cs x y hp ι m E M;unfold JW at hp;have q:∀vs:cM,A9 ι vs=cs->fD (m.nm ι) vs->Bf P m (k+1) t vs->Gets P G w.heap ι m cs (λm' vs=>Bf P m' (k+1) t vs):=λvs Z h2 h3=>⟨ι,m,vs,Lifts.refl E M,Z,h2,h3⟩;split at hp;rename_i o;obtain⟨b,rfl,_⟩:=DataW.trod_bool o y;exact q [.bool b] rfl ⟨trivial,trivial⟩ (by unfold Bf;rw[o];exact⟨b,rfl⟩);rename_i ik o;obtain⟨i,rfl,_,hw⟩:=DataW.trod_int o y;exact q [.int ik i] rfl ⟨trivial,trivial⟩ (by unfold Bf;rw[o];exact⟨i,rfl,hw⟩);rename_i o;obtain⟨s,rfl,_,hw⟩:=DataW.trod_string o y;have a9:s.data.toList.length<=maxLen:=by simpa using hw
  exact q [.str s.data.toList] (by simp[A9,u7]) ⟨trivial,trivial⟩ (by unfold Bf;rw[o];exact⟨s.data.toList,rfl,a9⟩);rename_i e o;simp only[oo]at hp;have z:0<P.cellsOf e:=O8.mp hp.2;rcases Deep.open_slice o y with⟨rfl,_⟩|⟨a,len,cap,mm,n',D,Pl,rfl,_,A,hcap,V,_,hel⟩;exact q [.nilSlice] rfl ⟨trivial,trivial⟩ (by unfold Bf;rw[o];exact .inl rfl);have V:mm=cap:=by simpa using V
  subst V;by_cases h0:mm=0;subst h0;have A:len=0:=Zs
  subst A;have L:=Lifts.push (b:=.dead) (l:=⟨a.block,a.off,0,a.spot⟩) E M rfl (by intro h;cases h) trivial;refine⟨_,_,[.slice m.nx 0 0 0],L,?_,⟨⟨.dead,by rw[cD.zC,cD.Q5 E.ok,cg rfl],rfl⟩,trivial⟩,?_⟩;simp[A9,u7,Q0.at];unfold Bf;rw[o];exact .inr ⟨m.nx,0,0,rfl,aA _,hcap,.inl ⟨rfl,by rw[cD.zC,cD.Q5 E.ok,cg rfl]⟩⟩;let⟨row,N⟩:=Deep.choose_lt hel;let⟨u,C,R,U,g2,g3⟩:=YU (n:=mm) (ce:=P.cellsOf e) (row:=row) (S:=λm' vs=>Bf P m' k e vs) (λm m' vs h hs=>JY h k e vs hs)
   (λi g ι m E M=>ih n' e (row i) _ (N i g).2 hp.1 ι m E M) mm (aA _) ι m E M
  have d:∀i j,i<mm->j<P.cellsOf e->w.cell? ((a.add (i*P.cellsOf e)).add j)=(row i)[j]?∧(row i).length=P.cellsOf e:=λi j g K=>by let⟨_,Q,I⟩:=World.cells?_some (N i g).1;exact⟨I j K,Q⟩
  have p:∀i j,i<mm->j<P.cellsOf e->∃v,(row i)[j]?=some v:=λi j g K=>⟨_,cB (by rw[(d i j g K).2];exact K)⟩;have B:a.spot=none:=by
   let⟨v,W⟩:=p 0 0 Zs z;have:=(d 0 0 Zs z).1;rw[W]at this;unfold World.cell? at this;split at this;split at this;cases this;rename_i hn;simp only[ah3,Addr.add,if_true]at hn;cases hs:a.spot with
   |none=>rfl
   |some s=>rw[hs]at hn;simp at hn
   cases this
  obtain⟨c,X,Y,hc⟩:∃c X Y,w.heap[a.block]?=some (.cells c X Y):=by let⟨v,W⟩:=p 0 0 Zs z;have:=(d 0 0 Zs z).1;rw[W]at this;unfold World.cell? at this;split at this;rename_i c X Y hh;simp only[ah3,Addr.add,if_true]at hh;exact⟨c,X,Y,hh⟩;cases this
  have a0:∀i j,(a.add (i*P.cellsOf e)).add j=⟨a.block,a.off+(i*P.cellsOf e+j),none⟩:=λi j=>by rw[Deep.add_add];unfold Addr.add;split;rename_i h;rw[h,adh,← B];rfl
  have a1:∀i j,i<mm->j<P.cellsOf e->c[a.off+(i*P.cellsOf e+j)]?=(row i)[j]?:=λi j g K=>by have:=(d i j g K).1;rw[a0]at this;simpa[World.cell?,hc]using this
  have F:a.off+mm*P.cellsOf e<=c.size:=by
   let⟨v,W⟩:=p (mm-1) (P.cellsOf e-1) Zs Zs;have:=a1 (mm-1) (P.cellsOf e-1) Zs Zs;rw[W]at this;have Z:=(vo.1 this).1;have h2:(mm-1)*P.cellsOf e+P.cellsOf e=mm*P.cellsOf e:=by rw[← aic];congr 1;omega
   omega
  have a6:∀i,i<mm->∃r,R[i]?=some r∧A9 u r=row i∧fD (C.nm u) r∧Bf P C k e r∧r.length=P.cellsOf e:=λi g=>by have hh:R[i]?=some R[i]:=cB Zs;let⟨O,Q,I⟩:=g3 i _ hh;refine⟨_,hh,O,Q,I,?_⟩;have:=ci List.length O;rw[dN]at this;rw[this,(d i 0 g z).2]
  have a5:∀i x,C.get i=some x->i≠C.nx:=λi x y e=>by have:=cD.Q9 U.rm.ok y;omega
  have J:∀j,C.has j->(u.upd C.nx ⟨a.block,a.off,mm*P.cellsOf e,none⟩) j=u j:=λj ⟨x,y,_⟩=>u.upd_ne _ (a5 j x y);have a3:∀i,C.has i->(C.new (.cells (P.cellsOf e) mm (T.ofList R))).has i:=λi ⟨x,y,W⟩=>⟨x,by rw[cD.Q5 U.rm.ok,aE (a5 i x y)];exact y,W⟩;have L:=Lifts.push (b:=.cells (P.cellsOf e) mm (T.ofList R)) (l:=⟨a.block,a.off,mm*P.cellsOf e,none⟩) U.rm U.lim rfl (λ_=>rfl)
   ⟨c,X,Y,hc,F,⟨aA _,R.length,Zs,T.kL R⟩,λi g=>by
    let⟨r,O,Q,I,q4,q5⟩:=a6 i g;refine⟨r,by rw[T.bV];exact O,q5,iW (cD.dL a3 J) r I,λj K=>?_⟩;show c[a.off+(i*P.cellsOf e+j)]?=_;rw[a1 i j g K,← Q,eU];cases hr:r[j]? with
    |none=>rfl
    |some v=>simp[aZ (n:=C.nm u) J v (gK.1 I v (O5 hr))]⟩
  refine⟨_,_,[.slice C.nx 0 len mm],U.trans L,?_,⟨⟨_,by rw[cD.zC,cD.Q5 U.rm.ok,cg rfl],rfl⟩,trivial⟩,?_⟩;simp only[A9,u7];rw[Q0.Dm (by rw[Q0.aF]),Q0.aF];simp only[adh];rw[← B];unfold Bf;rw[o];refine .inr ⟨C.nx,len,mm,rfl,A,hcap,.inr ⟨T.ofList R,Zs,by rw[cD.zC,cD.Q5 U.rm.ok,cg rfl],λi g=>?_⟩⟩;let⟨r,O,Q,I,q4,q5⟩:=a6 i g;exact⟨r,by rw[T.bV];exact O,q5,JY L.get k e r q4⟩;rename_i fs o;simp only[oo,agT]at hp;obtain⟨xs,n',rfl,_,a7,aa,hf⟩:=DataW.trod_struct o y;have:=RZ (P:=P) (G:=G) (hp:=w.heap) (cs:=cs) (S:=λm' t vs=>Bf P m' k t vs) (λm m' t vs h hs=>JY h k t vs hs) fs.toList 0
   (λf a2 ι m E M=>by
    let⟨i,g⟩:=adi a2;have a4:fs[i]?=some f:=(by simpa using g);have Z:=hf i f a4;have a8:i<xs.length:=(by rw[aa];exact(vo.1 a4).1);rw[cB a8]at Z;exact ih n' f.type _ _ Z (hp.1 f a2) ι m E M) (by rw[a7];exact hp.2) ι m E M
  let⟨ab,m',vs,O,Q,I,q4⟩:=this;refine⟨ab,m',vs,O,by simpa using Q,I,?_⟩;unfold Bf;rw[o];exact q4;cases hp
end
structure xQ(m:cD)(id rs:Nat)(l:List cM):Prop where
 pos:0<rs
 len:∀r,r∈l->r.length=rs
 blk:∃c t c',m.get id=some (.cells rs c t)∧l.length<=c∧c<=c'∧T.Ok t c'∧∀i (h:i<l.length),t.get i=some l[i]
structure bC(id:Nat)(m m':cD):Prop where
 ok:T.Ok m'.t m'.nx
 nx:m.nx<=m'.nx
 lim:m'.lim=m.lim
 old:∀i,i<m.nx->i≠id->m'.get i=m.get i
def bC.refl{id:Nat}{m:cD}(h:T.Ok m.t m.nx):bC id m m:=⟨h,aA _,rfl,λ_ _ _=>rfl⟩
variable {c:cD}
def bC.trans{id:Nat}(h:bC id a b)(k:bC id b c):bC id a c:=
 ⟨k.ok,dn h.nx k.nx,k.lim.trans h.lim,λi d e=>(k.old i (aP d h.nx) e).trans (h.old i d e)⟩
def cE.toB{id:Nat}(h:cE a b):bC id a b:=⟨h.ok,h.nx,h.lim,λi c _=>h.old i c⟩
def cE.dO{id:Nat}(h:cE a b)(k:bC id b c)(e:a.nx<=id):cE a c:=
 ⟨k.ok,dn h.nx k.nx,k.lim.trans h.lim,λi d=>(k.old i (aP d h.nx) Zs).trans (h.old i d)⟩
def xQ.same{m:cD}{id rs:Nat}{l:List cM}(h:xQ m id rs l)(e:a.get id=m.get id):xQ a id rs l:=by let⟨p,g,c,t,b,d,f⟩:=h;exact⟨p,g,c,t,b,e.trans d,f⟩
def xQ.ext{m:cD}{id rs:Nat}{l:List cM}(h:xQ m id rs l)(a:id<m.nx)(e:cE m b):xQ b id rs l:=h.same (e.old id a)
def xQ.take{m:cD}{id rs:Nat}{l:List cM}(h:xQ m id rs l)(k:Nat):xQ m id rs (l.take k):=by
 let⟨p,n,c,t,b,e,q,d,f,g⟩:=h;refine⟨p,λr o=>n r (adn o),c,t,b,e,ZD,d,f,λi j=>?_⟩;have a:i<l.length:=by simp at j;omega
 rw[g i a,axu]
variable {i:Nat}
def xQ.RU{m:cD}{id rs:Nat}{l:List cM}(h:xQ m id rs l)(hi:i<l.length):AM.RU (m.get id) (i*rs) rs=some (.agg l[i]):=by let⟨p,f,c,t,o,d,r,q,s,e⟩:=h;have g:=f l[i] (ql hi);have b:=wN (rs:=rs) (n:=c) (cF:=t) (i:=i) (j:=0) (k:=rs) p Zs (e i hi) g Zs;rw[adh]at b;rw[d];show aY (some (Y9.cells rs c t)) (λa n cF=>ob (qp a n cF (i*rs) rs) λl=>some (j5.agg l))=_;rw[dJ,b,I6,W9,P9 Zs]
def xQ.ld1{m:cD}{id rs:Nat}{l:List cM}(h:xQ m id rs l){j:Nat}(hi:i<l.length)(f:j<rs):AM.ld1 (m.get id) (i*rs+j)=l[i][j]?:=by let⟨p,r,c,t,g,d,o,k,q,e⟩:=h;rw[d];show aY (some (Y9.cells rs c t)) (λb n a=>cell1 b n a (i*rs+j))=_;rw[dJ,iw f Zs (e i hi)]
def xQ.store{m:cD}{id rs:Nat}{l:List cM}(h:xQ m id rs l)(o:m.Ok)(a:id<m.nx)(d:m.lim<=id)(hi:i<l.length){row:cM}(E:row.length=rs)(B:H8 row=true):
   ∃m',(∀{β:Type} (k:cD->Option β),storeAt m id (i*rs) row k=k m')∧xQ m' id rs (l.set i row)∧bC id m m':=by
 let⟨p,v,c,t,w,y,z,x,g,s⟩:=h;have D:Nat.div (i*rs) rs=i:=awG i p;have G:Nat.mod (i*rs) rs=0:=Nat.mul_mod_left i rs;have f:=s i hi;have C:=v l[i] (ql hi);have F:bf rs c t (i*rs) row=some (t.put i row):=by
  unfold bf;rw[D,G,show blt i c=true from O8.mpr Zs,f];show bi (ble (Nat.add 0 (len' row)) rs) (some (t.put i (pK 0 row l[i]))) none=_;rw[K7,show ble (Nat.add 0 row.length) rs=true from l7 (by show 0+row.length<=rs;omega),pU _ _ _ Zs,at7,P7,
   su Zs]
  simp
 refine⟨m.set id (.cells rs c (t.put i row)),λk=>?_,⟨p,λr q=>?_,c,t.put i row,w,?_,by simpa using z,x,T.Ok.put g i row Zs,λj u=>?_⟩,?_⟩;rw[bI d B,y];show ob (ob (bf rs c t (i*rs) row) λb=>some (Y9.cells rs c b)) _=_;rw[F];rfl;rcases aqw q with h|rfl;exact v r h;exact E;rw[cD.R9 o a,cg rfl];have n:j<l.length:=by simpa using u
 rw[awY];split;rename_i e;subst e;exact T.aN g _ _ Zs;rename_i e;rw[T.bU g _ _ _ Zs e];exact s j n;exact⟨cD.Ok.set o a _,ZZ,rfl,λj u A=>by rw[cD.R9 o a,aE A]⟩
def Ej{rs n:Nat}{cF:T cM}:∀(a b off:Nat),J7 rs n cF (a+b) off=ob (J7 rs n cF a off) λx=>ob (J7 rs n cF b (off+a)) λy=>some (x++y)
 |0,b,off=>by rw[P7,adh];show _=ob (J7 rs n cF b off) λy=>some ([]++y);cases J7 rs n cF b off<;>rfl
 |a+1,b,off=>by
  rw[show a+1+b=(a+b)+1 from by omega];show ob (cell1 rs n cF off) (λv=>ob (J7 rs n cF (a+b) (off+1)) λl=>some (v::l))=ob (ob (cell1 rs n cF off) λv=>ob (J7 rs n cF a (off+1)) λl=>some (v::l)) _;rw[Ej a b (off+1),show off+1+a=off+(a+1)from by omega];cases cell1 rs n cF off with
  |none=>rfl
  |some v=>
   simp only[I6];cases J7 rs n cF a (off+1)with
   |none=>rfl
   |some x=>simp only[I6];cases J7 rs n cF b (off+(a+1))<;>rfl
variable {cF:T cM}
def El{rs n:Nat}{row:cM}(hi:i<n)(h:cF.get i=some row)(c:row.length=rs):
   ∀k j,j+k=rs->J7 rs n cF k (i*rs+j)=some (row.drop j):=by
 intro k;induction k with
 |zero=>intro j b;rw[su Zs];rfl
 |succ k ih=>
  intro j b;show ob (cell1 rs n cF (i*rs+j)) (λv=>ob (J7 rs n cF k (i*rs+j+1)) λl=>some (v::l))=_;have a:j<row.length:=Zs
  rw[iw Zs hi h,cB a,I6,show i*rs+j+1=i*rs+(j+1)from by omega,ih (j+1) Zs,zu a];rfl
def jL{rs n:Nat}{l:List cM}(c:∀r,r∈l->r.length=rs)(h:∀i (h:i<l.length),cF.get i=some l[i])(hn:l.length<=n):
   ∀k i,i+k=l.length->J7 rs n cF (k*rs) (i*rs)=some (l.drop i).flatten:=by
 intro k;induction k with
 |zero=>intro i b;rw[su Zs,ah3];rfl
 |succ k ih=>
  intro i b;have a:i<l.length:=Zs
  have:=El (n:=n) (i:=i) Zs (h i a) (c _ (ql a)) rs 0 Zs;rw[adh,W9]at this;rw[show(k+1)*rs=rs+k*rs from by rw[ajx,Nat.one_mul,as2],Ej,this,I6,show i*rs+rs=(i+1)*rs from by rw[ajx,Nat.one_mul],ih (i+1) Zs,I6,zu a];rfl
def GU{rs:Nat}:∀(l:List cM),(∀r,r∈l->r.length=rs)->rowsOf rs l.length l.flatten=some l
 |[],_=>rfl
 |r::l,h=>by have hr:=h r ZZ;show ob (takeN rs (r++l.flatten)) (λx=>ob (rowsOf rs l.length (iA rs (r++l.flatten))) λrest=>some (x::rest))=_;rw[iL _ _ ZD,I6,fC,List.drop_left' hr,List.take_left' hr,GU l (λx hx=>h x (by simp[hx]))];rfl
def Em{m:cD}(b:m.Ok){rs:Nat}(hp:0<rs){l:List cM}(a:∀r,r∈l->r.length=rs):xQ (m.new (.cells rs l.length (T.ofList l))) m.nx rs l:=
 ⟨hp,a,l.length,T.ofList l,l.length,by rw[cD.Q5 b,cg rfl],aA _,aA _,T.kL l,λi h=>by rw[T.bV,cB h]⟩
def Co{m:cD}{rs:Nat}{l:List cM}(b:∀r,r∈l->r.length=rs):grown m rs l.length l.flatten=some [⟨.sliceU m.nx 0 l.length rs,m.new (.cells rs l.length (T.ofList l))⟩]:=by show ob (rowsOf rs l.length l.flatten) (λa=>one (j5.sliceU m.nx 0 l.length rs) (m.new (.cells rs l.length (T.ofList a))))=_;rw[GU l b];rfl
def bL:∀(a b:cM),H8 (a++b)=(H8 a&&H8 b)
 |[],_=>rfl
 |v::a,b=>by show bi (D8 v) (H8 (a++b)) false=(bi (D8 v) (H8 a) false&&H8 b);rw[bL a b];cases D8 v<;>rfl
def zD:∀(l:List cM),(∀r,r∈l->H8 r=true)->H8 l.flatten=true
 |[],_=>rfl
 |r::l,h=>by rw[awQ,bL,h r ZZ,zD l (λx hx=>h x (by simp[hx]))];rfl
def xK{rs n:Nat}(hp:0<rs):∀(vs:cM) (t:T cM) (off k n':Nat),n<=n'->T.Ok t n'->k*rs<=off->off+vs.length<=n*rs->
   ∃t',kH rs n vs t off=some t'∧T.Ok t' n'∧∀i,i<k->t'.get i=t.get i
 |[],t,off,k,n',_,h,_,_=>⟨t,rfl,h,λ_ _=>rfl⟩
 |v::vs,t,off,k,n',hnn,h,hk,hn=>by
  have hlt:off<n*rs:=by simp at hn;omega
  have hd:off / rs<n:=Nat.div_lt_of_lt_mul (by rw[ajr];exact hlt);let⟨row,hrow⟩:=(h.get _).2 (aP hd hnn);have hmod:off%rs<rs:=ajq _ hp;have hkd:k<=off / rs:=(atc hp).2 hk;have hw:bf rs n t off [v]=some (t.put (off / rs) (pK (off%rs) [v] row)):=by show bi (blt (off / rs) n) (ob (t.get (off / rs)) λrow=>bi (ble (off%rs+1) rs) (some (t.put (off / rs) (pK (off%rs) [v] row))) none) none=_;rw[show blt (off / rs) n=true from O8.mpr hd,hrow,aC,I6,show ble (off%rs+1) rs=true from l7 hmod];rfl
  let⟨t',h1,h2,h3⟩:=xK hp vs (t.put (off / rs) (pK (off%rs) [v] row)) (off+1) k n' hnn (T.Ok.put h _ _ (aP hd hnn)) Zs (by simp at hn;omega);refine⟨t',?_,h2,λi hi=>?_⟩;show ob (bf rs n t off [v]) (λrows'=>kH rs n vs rows' (off+1))=_;rw[hw];exact h1;rw[h3 i hi,T.bU h _ _ _ Zs Zs]
def xQ.clear{m:cD}{id rs:Nat}{l:List cM}(h:xQ m id rs l)(r:m.Ok)(a:id<m.nx)(g:m.lim<=id){k:Nat}(K:k<=l.length){vs:cM}(F:k*rs+vs.length<=l.length*rs)(E:H8 vs=true):
   ∃m',(∀{β:Type} (f:cD->Option β),gY m id (k*rs) vs f=f m')∧xQ m' id rs (l.take k)∧bC id m m':=by
 have x:=h.take k;let⟨p,L,c,t,u,y,z,w,A,B⟩:=h;cases vs with
 |nil=>exact⟨m,λf=>rfl,x,bC.refl r⟩
 |cons v vs=>
  let⟨s,G,H,I⟩:=xK p (v::vs) t (k*rs) k u w A (aA _) (dn F (U0 _ z));refine⟨m.set id (.cells rs c s),λ{β} f=>?_,⟨p,x.len,c,s,u,by rw[cD.R9 r a,cg rfl],ZD,w,H,λi C=>?_⟩,cD.Ok.set r a _,ZZ,rfl,λj J D=>by rw[cD.R9 r a,aE D]⟩;show bi (blt id m.lim) none (bi (H8 (v::vs)) (aY (m.get id) λq n o=>ob (kH q n (v::vs) o (k*rs)) λb=>f (m.set id (.cells q n b))) none)=f (m.set id (.cells rs c s));rw[show blt id m.lim=false from aa0.2 λe=>cj (O8.mp e) (Nat.not_lt.2 g),E,y,bA,aC,dJ,G];rfl;have d:i<k∧i<l.length:=by simp at C;omega
  rw[I i d.1,B i d.2,axu]
def GV{z:cM}:∀n,(U4 z n).length=n*z.length
 |0=>by rw[ah3];rfl
 |n+1=>by show(dK z (U4 z n)).length=_;rw[V9,aaf,GV n,ajx];omega
def GX{z:cM}(h:H8 z=true):∀n,H8 (U4 z n)=true
 |0=>rfl
 |n+1=>by show H8 (dK z (U4 z n))=true;rw[V9,bL,h,GX h n];rfl
def dV(m:cD)(v:j5)(xs:cM):Prop:=
 (v=.nilSlice∧xs=[])∨∃id off,((∃c,v=.slice id off xs.length c∧xs.length<=c)∨v=.sliceU id off xs.length 1)∧id<m.nx∧
  (xs=[]∨∃n cF,m.get id=some (.cells 1 n cF)∧off+xs.length<=n∧∀i (h:i<xs.length),cF.get (off+i)=some [xs[i]])
def xR(m:cD)(v:j5)(xs:cM):Prop:=
 ∃id off c,v=.slice id off xs.length c∧xs.length<=c∧id<m.nx∧
  (xs=[]∨∃n cF,m.get id=some (.cells 1 n cF)∧off+xs.length<=n∧∀i (h:i<xs.length),cF.get (off+i)=some [xs[i]])
variable {xs:cM}
def xR.vs{m:cD}{v:j5}(h:xR m v xs):dV m v xs:=by let⟨id,a,c,b,d,e,f⟩:=h;exact .inr ⟨id,a,.inl ⟨c,b,d⟩,e,f⟩
def dV.keep{m:cD}{v:j5}(a:dV m v xs)(hn:m.nx<=b.nx)(h:∀id n cF,id<m.nx->m.get id=some (.cells 1 n cF)->(∃o l c,v=.slice id o l c)∨(∃o l e,v=.sliceU id o l e)->b.get id=m.get id):dV b v xs:=by rcases a with a|⟨id,off,h1,h2,h3⟩;exact .inl a;refine .inr ⟨id,off,h1,aP h2 hn,?_⟩;rcases h3 with h3|⟨n,cF,h4,h5,h6⟩;exact .inl h3;refine .inr ⟨n,cF,(h id n cF h2 h4 ?_).trans h4,h5,h6⟩;rcases h1 with⟨c,rfl,_⟩|rfl;exact .inl ⟨_,_,_,rfl⟩;exact .inr ⟨_,_,_,rfl⟩
def dV.ext{m:cD}(h:cE m a){v:j5}(c:dV m v xs):dV a v xs:=c.keep h.nx λid _ _ b _ _=>h.old id b
def xR.keep{m:cD}{v:j5}(g:xR m v xs)(hn:m.nx<=b.nx)(h:∀id n cF,id<m.nx->m.get id=some (.cells 1 n cF)->(∃o l c,v=.slice id o l c)->b.get id=m.get id):xR b v xs:=by obtain⟨id,d,c,rfl,f,e,a⟩:=g;refine⟨id,d,c,rfl,f,aP e hn,?_⟩;rcases a with a|⟨n,cF,h4,h5,h6⟩;exact .inl a;exact .inr ⟨n,cF,(h id n cF e h4 ⟨_,_,_,rfl⟩).trans h4,h5,h6⟩
def xR.ext{m:cD}(h:cE m a){v:j5}(c:xR m v xs):xR a v xs:=c.keep h.nx λid _ _ b _ _=>h.old id b
def dV.cells{m:cD}{v:j5}(h:dV m v xs):v.cells=[v]:=by rcases h with⟨rfl,rfl⟩|⟨id,off,⟨c,rfl,_⟩|rfl,_⟩<;>rfl
def dV.aL{m:cD}{v:j5}(h:dV m v xs)(p:j5->β)(q:β):iK v p q=q:=by rcases h with⟨rfl,rfl⟩|⟨id,off,⟨c,rfl,_⟩|rfl,_⟩<;>rfl
def dV.D8{m:cD}{v:j5}(h:dV m v xs):Go.AM.D8 v=true:=by rcases h with⟨rfl,rfl⟩|⟨id,off,⟨c,rfl,_⟩|rfl,_⟩<;>rfl
def dV.len{m:cD}{v:j5}(h:dV m v xs):xC v (some (j5.int .i64 0)) (λ_ _ n _=>some (.int .i64 n)) (λ_ _ n _=>some (.int .i64 n))=some (.int .i64 xs.length):=by rcases h with⟨rfl,rfl⟩|⟨id,off,⟨c,rfl,_⟩|rfl,_⟩<;>rfl
def dV.lenOf{m:cD}{v:j5}(h:dV m v xs):Go.AM.lenOf v=some xs.length:=by rcases h with⟨rfl,rfl⟩|⟨id,off,⟨c,rfl,_⟩|rfl,_⟩<;>rfl
def dV.at{m:cD}{v:j5}{xs:cM}(h:dV m v xs){i:Nat}(hi:i<xs.length):
   ∃id o,xC v none (λid off len _=>idx len (.int .i64 i) λk=>some (j5.ptr id (off+k))) (λid off len _=>idx len (.int .i64 i) λk=>some (j5.ptr id (off+k)))=some (.ptr id o)∧id<m.nx∧ld1 (m.get id) o=some xs[i]:=by
 rcases h with⟨_,rfl⟩|⟨id,off,h1,h2,h3⟩;simp at hi;rcases h3 with rfl|⟨n,cF,h4,h5,h6⟩;simp at hi;refine⟨id,off+i,?_,h2,by rw[h4];exact WX Zs (h6 i hi)⟩;rcases h1 with⟨c,rfl,_⟩|rfl;simp only[vI];rw[Z0 _ _ _ hi];simp only[rV];rw[Z0 _ _ _ hi]
def dV.at0{m:cD}{v x:j5}(h:dV m v (x::xs)):
   ∃id o,xC v none (λid off len _=>idx len (.int .i64 0) λk=>some (j5.ptr id (off+k))) (λid off len _=>idx len (.int .i64 0) λk=>some (j5.ptr id (off+k)))=some (.ptr id o)∧id<m.nx∧ld1 (m.get id) o=some x:=by
 have:=h.at (i:=0) ZZ;simpa using this
def GY{n off:Nat}(h:∀i (h:i<xs.length),cF.get (off+i)=some [xs[i]])(hn:off+xs.length<=n):
   ∀(j i:Nat),i+j=xs.length->J7 1 n cF j (off+i)=some (xs.drop i):=by
 intro j;induction j with
 |zero=>intro i b;rw[su Zs];rfl
 |succ j ih=>
  intro i b;have a:i<xs.length:=Zs
  show ob (cell1 1 n cF (off+i)) (λv=>ob (J7 1 n cF j (off+i+1)) λl=>some (v::l))=_;have e:cell1 1 n cF (off+i)=some xs[i]:=by
   have:=iw (rs:=1) (n:=n) (cF:=cF) (i:=off+i) (j:=0) Zs Zs (h i a)
   rwa [ahk]at this
  rw[e,show off+i+1=off+(i+1)from by omega,ih (i+1) Zs,zu a];rfl
def dV.read{m:cD}{v:j5}(h:dV m v xs):Z8 m 1 xs.length v=some xs:=by
 rcases h with⟨rfl,rfl⟩|⟨id,off,h1,h2,h3⟩;rfl;have b:Z6 m id off (Nat.mul xs.length 1)=some xs:=by
  have e:Nat.mul xs.length 1=xs.length:=ahk _;rw[e];rcases h3 with rfl|⟨n,a,h4,h5,h6⟩;rfl;cases hx:xs.length with
  |zero=>rw[U1.1 hx];rfl
  |succ k=>show aY (m.get id) (λf d a=>J7 f d a (k+1) off)=_;have:=GY h6 h5 (k+1) 0 Zs;rw[h4,dJ,← adh off,this,W9]
 rcases h1 with⟨c,rfl,_⟩|rfl<;>exact b
def xR.tail{m:cD}{v x:j5}{xs:cM}(h:xR m v (x::xs)):∃v',xR m v' xs∧(∀(y a:OF) (ls:cM) (env:T j5) (nid:Nat),y ls env=v->a ls env=.int .i64 1->TU 1 y (some a) none ls env nid=some (v',none))∧∀i o l c,v'=.slice i o l c->∃o2 l2 c2,v=.slice i o2 l2 c2:=by
 obtain⟨id,b,c,rfl,f,g,d⟩:=h;have k:xs.length+1<=c:=by simpa using f
 refine⟨.slice id (bi (beq 1 c) b (Nat.add b (Nat.mul 1 1))) xs.length (c-1),⟨id,_,c-1,rfl,Zs,g,?_⟩,λy a ls env nid p j=>?_,λi o l q h=>by cases h;exact⟨_,_,_,rfl⟩⟩;by_cases hx:xs=[];exact .inl hx;have s:=P6.2 hx;rcases d with d|⟨n,cF,h4,h5,h6⟩;cases d;refine .inr ⟨n,cF,h4,?_⟩;rw[mM,aE Zs];have e:Nat.add b (Nat.mul 1 1)=b+1:=rfl;rw[e];refine⟨by simp at h5;omega,λi r=>?_⟩;have:=h6 (i+1) ZD;rw[show b+1+i=b+(i+1)from by omega,this];rfl;show jC (a ls env) (λl=>K6 nid 1 (y ls env) l none)=_;rw[j,p];show K6 nid 1 (.slice id b (xs.length+1) c) 1 none=_;show bi (ble 1 (xs.length+1)) (bi (ble (xs.length+1) c) (some (j5.slice id (bi (beq 1 c) b (Nat.add b (Nat.mul 1 1))) (Nat.sub (xs.length+1) 1) (Nat.sub c 1),none)) none) none=_;rw[show ble 1 (xs.length+1)=true from l7 Zs,show ble (xs.length+1) c=true from l7 k];rfl
structure Fr(lo p:Nat)(m m':cD):Prop where
 ok:T.Ok m'.t m'.nx
 nx:m.nx<=m'.nx
 lim:m'.lim=m.lim
 old:∀i,i<lo->i≠p->m'.get i=m.get i
def Fr.refl{lo p:Nat}{m:cD}(h:T.Ok m.t m.nx):Fr lo p m m:=⟨h,aA _,rfl,λ_ _ _=>rfl⟩
variable {p:Nat}
def Fr.trans{lo:Nat}(h:Fr lo p a b)(k:Fr lo p b c):Fr lo p a c:=
 ⟨k.ok,dn h.nx k.nx,k.lim.trans h.lim,λi d e=>(k.old i d e).trans (h.old i d e)⟩
def cE.fr{lo:Nat}{m m':cD}(h:cE m m')(a:lo<=m.nx):Fr lo p m m':=⟨h.ok,h.nx,h.lim,λi b _=>h.old i Zs⟩
def bC.fr{lo:Nat}{m m':cD}(h:bC p m m')(a:lo<=m.nx):Fr lo p m m':=⟨h.ok,h.nx,h.lim,λi c b=>h.old i Zs b⟩
def Fr.ext{lo:Nat}{m m':cD}(h:Fr lo p m m')(a:m.nx<=lo)(hp:lo<=p):cE m m':=⟨h.ok,h.nx,h.lim,λi b=>h.old i Zs Zs⟩
def Fr.Ic{lo:Nat}{m m':cD}(h:Fr lo p m m')(a:m.nx<=lo):bC p m m':=⟨h.ok,h.nx,h.lim,λi c b=>h.old i Zs b⟩
def Fr.mono{lo q:Nat}{m m':cD}(h:Fr lo p m m')(hp:lo<=p):Fr lo q m m':=⟨h.ok,h.nx,h.lim,λi a _=>h.old i a Zs⟩
def Fr.down{lo a:Nat}{m m':cD}(h:Fr lo p m m')(d:a<=lo):Fr a p m m':=⟨h.ok,h.nx,h.lim,λi c b=>h.old i Zs b⟩
def aO(lo:Nat)(m:cD)(v:j5)(l:cM):Prop:=
 (v=.nilSlice∧l=[])∨∃id,lo<=id∧id<m.nx∧H8 l=true∧xQ m id 1 (l.map ([·]))∧(v=.slice id 0 l.length l.length∨v=.sliceU id 0 l.length 1)
def aO.nil(lo:Nat)(m:cD):aO lo m .nilSlice []:=.inl ⟨rfl,rfl⟩
def aO.keep{lo:Nat}{m:cD}{v:j5}{l:cM}(h:aO lo m v l)(hn:m.nx<=a.nx)(b:∀i,lo<=i->i<m.nx->a.get i=m.get i):aO lo a v l:=by rcases h with h|⟨id,h1,h2,h3,h4,h5⟩;exact .inl h;exact .inr ⟨id,h1,aP h2 hn,h3,h4.same (b id h1 h2),h5⟩
def aO.ext{lo:Nat}{m:cD}{v:j5}{l:cM}(h:aO lo m v l)(e:cE m a):aO lo a v l:=h.keep e.nx λi _ b=>e.old i b
def aO.Ic{lo:Nat}{m:cD}{v:j5}{l:cM}(h:aO lo m v l)(e:bC p m a)(hp:p<lo):aO lo a v l:=h.keep e.nx λi c b=>e.old i b Zs
def zG:∀l:cM,(l.map ([·])).flatten=l
 |[]=>rfl
 |x::l=>by rw[afp,awQ,zG l];rfl
def aO.vs{lo:Nat}{m:cD}{v:j5}{l:cM}(h:aO lo m v l):dV m v l:=by rcases h with h|⟨id,h1,h2,h3,h4,h5⟩;exact .inl h;let⟨p,g,c,t,f,b,d,j,k,e⟩:=h4;refine .inr ⟨id,0,?_,h2,.inr ⟨c,t,b,by simpa using d,λi a=>?_⟩⟩;rcases h5 with h5|h5;exact .inl ⟨_,h5,aA _⟩;exact .inr h5;rw[P7,e i (by simpa using a)];simp
def aO.sl{lo:Nat}{m:cD}{v:j5}{xs:cQ}(h:aO lo m v (ints xs)):U5 m v xs:=by
 have a:(ints xs).length=xs.length:=by simp[ints]
 rcases h with⟨h,h'⟩|⟨id,h1,h2,h3,h4,h5⟩;exact .inl ⟨h,by simpa[ints]using h'⟩;let⟨p,j,c,t,g,d,e,k,l,f⟩:=h4;rw[a]at h5;refine .inr ⟨(id,0),?_,h2,.inr ⟨c,t,d,by simpa[ints]using e,λi b=>?_⟩⟩;rcases h5 with h5|h5;exact .inl ⟨_,h5⟩;exact .inr ⟨_,h5⟩;rw[P7,f i (by simpa[ints]using b)];simp[ints]
variable {bytes:Nat}
def vK{n:Nat}(h:n<=100000)(hb:1<=bytes∧bytes<=1000):big n bytes 1=true:=by show bi (ble ((2*n+2048)*bytes) 281474976710656) (bi true (ble 1 bytes) false) false=true;rw[show ble ((2*n+2048)*bytes) 281474976710656=true from l7 (dn (axi (show 2*n+2048<=202048 by omega) hb.2) ZS),show ble 1 bytes=true from l7 hb.1];rfl
def nH{lo:Nat}{m:cD}(e:m.Ok)(c:lo<=m.nx)(l:cM)(d:H8 l=true):grown m 1 l.length l=some [⟨.sliceU m.nx 0 l.length 1,m.new (.cells 1 l.length (T.ofList (l.map ([·]))))⟩]∧aO lo (m.new (.cells 1 l.length (T.ofList (l.map ([·]))))) (.sliceU m.nx 0 l.length 1) l:=by
 have b:∀r,r∈l.map ([·])->r.length=1:=λr b=>by obtain⟨x,_,rfl⟩:=adg.1 b;rfl
 have g:=Co (m:=m) b;have a:=Em e (rs:=1) Zs b;rw[ahP]at g a;rw[zG]at g;exact⟨g,.inr ⟨m.nx,c,ZZ,d,a,.inr rfl⟩⟩
def Fr.new{lo:Nat}{m:cD}(c:m.Ok)(a:lo<=m.nx)(b:Y9):Fr lo lo m (m.new b):=((cE.refl c).new b).fr a
def Xa{lo:Nat}{m:cD}{v:j5}{l:cM}(w:m.Ok)(K:m.lim<=lo)(d:lo<=m.nx)(h:aO lo m v l)(E:H8 xs=true)(hb:l.length+xs.length<=100000)(f:1<=bytes∧bytes<=1000):
   ∃v' m',jS m 1 bytes xs.length xs v=some [⟨v',m'⟩]∧aO lo m' v' (l++xs)∧Fr lo lo m m':=by
 by_cases hf:xs=[];subst hf;refine⟨v,m,?_,by simpa using h,Fr.refl w⟩;rcases h with⟨rfl,rfl⟩|⟨id,_,_,_,_,rfl|rfl⟩;rfl;show bi (ble (l.length+0) l.length) (one (.slice id 0 (l.length+0) l.length) m) _=_;rw[adh,show ble l.length l.length=true from l7 (aA _)];rfl;rfl;obtain⟨k,F⟩:∃k,xs.length=k+1:=⟨xs.length-1,by have:=P6.2 hf;omega⟩;rcases h with⟨rfl,rfl⟩|⟨id,i1,i2,i3,ha,hv⟩;let⟨g,o⟩:=nH (lo:=lo) w d xs E;refine⟨_,_,?_,by rw[O9];exact o,Fr.new w d _⟩;rw[← g];show IY m 1 bytes xs.length xs=_;rw[F];show bi (big (k+1) bytes 1) _ none=_;rw[vK (by simp at hb;omega) f];rfl;have u:H8 (l++xs)=true:=by rw[bL,i3,E];rfl
 let⟨p,P,c,t,H,I,L,V,G,M⟩:=ha;have D:l.length<=c:=by simpa using L
 have C:J7 1 c t l.length 0=some l:=by
  have:=jL (rs:=1) (n:=c) (cF:=t) P M L l.length 0 ZZ
  rwa [ahk,ah3,W9,zG]at this
 rcases hv with rfl|rfl;let⟨g,o⟩:=nH (lo:=lo) w d (l++xs) u;refine⟨_,_,?_,o,Fr.new w d _⟩;rw[← g];show gF m 1 bytes xs.length xs id 0 l.length l.length=_;unfold gF;have N:ble (Nat.add l.length xs.length) l.length=false:=by rw[aa0];intro e;have:l.length+xs.length<=l.length:=D5 e;omega
 have O:Z6 m id 0 (Nat.mul l.length 1)=some l:=by
  rw[show Nat.mul l.length 1=l.length from ahk _];cases hll:l.length with
  |zero=>rw[U1.1 hll];rfl
  |succ j=>show aY (m.get id) (λrs R cF=>J7 rs R cF (j+1) 0)=_;rw[I,dJ,← hll,C]
 rw[N,bA,show Nat.add l.length xs.length=(l++xs).length from by simp,vK (by simpa using hb) f,aC,O,I6,V9];have a:(m.set id .dead).Ok:=cD.Ok.set w i2 _;have A:∀b,Fr lo lo m ((m.set id .dead).new b):=λb=>⟨cD.Ok.new a _,ZZ,ZZ,λi J _=>by
  rw[cD.Q5 a,aE ZD,cD.R9 w i2,aE Zs]⟩
 have s:ble m.lim id=true:=l7 Zs;by_cases hone:xs.length=1;obtain⟨x,rfl⟩:∃x,xs=[x]:=avQ.1 hone;have B:∃c'',l.length+1<=c''∧T.Ok (t.put l.length [x]) c'':=by
  by_cases hc:l.length<H;exact⟨H,hc,T.Ok.put G _ _ hc⟩;obtain rfl:H=l.length:=Zs
  exact⟨l.length+1,aA _,T.Ok.push G _⟩
 let⟨c'',S,U⟩:=B;refine⟨.sliceU m.nx 0 (l.length+1) 1,(m.set id .dead).new (.cells 1 (l.length+1) (t.put l.length [x])),?_,.inr ⟨m.nx,d,ZZ,u,⟨Zs,λr Q=>?_,l.length+1,t.put l.length [x],c'',?_,ZZ,S,U,λi J=>?_⟩,.inr ZZ⟩,A _⟩;show ng m 1 bytes 1 [x] id 0 l.length 1=_;show bi (beq 1 1) (bi (big (l.length+1) bytes 1) (bi (ble m.lim id) (bi (H8 [x]) (uS (m.get id) _ _) none) none) none) none=_;rw[vK (by simpa using hb) f,s,E,I];show bi (bi (beq 1 1) (bi (beq 0 0) (bi (ble l.length c) (bi (beq 1 1) (beq (len' [x]) 1) false) false) false) false) _ _=_;rw[show ble l.length c=true from l7 D];rfl;obtain⟨y,_,rfl⟩:=adg.1 Q;rfl;rw[cD.Q5 a];simp;by_cases hil:i=l.length;subst hil;rw[T.aN G _ _ Zs];simp;have q:i<l.length:=by simp at J;omega
 rw[T.bU G _ _ _ Zs (aqR hil),M i (by simpa using q)];simp[ai8,q];let⟨g,o⟩:=nH (lo:=lo) a (by simpa using d) (l++xs) u;refine⟨_,_,?_,o,A _⟩;rw[← g];show ng m 1 bytes xs.length xs id 0 l.length 1=_;unfold ng;rw[F];show bi (beq 1 1) (bi (big (l.length+(k+1)) bytes 1) (bi (ble m.lim id) (bi (H8 xs) (uS (m.get id) _ _) none) none) none) none=_;rw[vK Zs f,s,E,I];show bi (bi (beq 1 1) (bi (beq 0 0) (bi (ble l.length c) (bi (beq (k+1) 1) (beq (len' xs) 1) false) false) false) false) _ (ob (J7 1 c t (Nat.mul l.length 1) 0) λz=>grown (m.set id .dead) 1 (Nat.add l.length (k+1)) (dK z xs))=_;rw[show ble l.length c=true from l7 D,show beq (k+1) 1=false from aa0.2 λe=>hone (by rw[F];exact nA e),
  show Nat.mul l.length 1=l.length from ahk _,show Nat.add l.length (k+1)=(l++xs).length from by simp[F]]
 show ob (J7 1 c t l.length 0) (λz=>grown (m.set id .dead) 1 (l++xs).length (dK z xs))=_;rw[C,I6,V9]
def uH{lo:Nat}{m:cD}{v x:j5}{l:cM}(k:m.Ok)(a:m.lim<=lo)(c:lo<=m.nx)(h:aO lo m v l)(e:dV m x xs)(j:H8 xs=true)(hb:l.length+xs.length<=100000)(b:1<=bytes∧bytes<=1000):
   ∃v' m',(∀(s y:OF) (cf:G6) (ls:cM) (env:T j5),s ls env=v->y ls env=x->lu 1 bytes s y cf ls env m=some [⟨v',m'⟩])∧aO lo m' v' (l++xs)∧Fr lo lo m m':=by
 let⟨v',m',f,g,i⟩:=Xa k a c h j hb b;refine⟨v',m',λs y cf ls env o p=>?_,g,i⟩;show ob (AM.lenOf (y ls env)) (λn=>ob (Z8 m 1 n (y ls env)) λd=>jS m 1 bytes n d (s ls env))=_;rw[p,o,e.lenOf,I6,e.read,I6,f]
def FC:∀a b:List cL,strEq a b=decide (a=b)
 |[],[]=>rfl
 |[],_ :: _=>rfl
 |_ :: _,[]=>rfl
 |x::a,y::b=>by show bi (beq x.toNat y.toNat) (strEq a b) false=_;rw[mM,FC a b];by_cases h:x=y;subst h;rw[cg rfl];simp;rw[aE (λe=>h (avB.1 e))];simp[h]
@[simp] theorem atX(a b:List cL):Hy a b=some (.bool (decide (a=b))):=by rw[← FC];rfl
@[simp] theorem atY(a b:List cL):sNe a b=some (.bool (!decide (a=b))):=by rw[← FC];rfl
def Z4{a b:List cL}(h:a.length+b.length<9223372036854775808):fZ a b=some (.str (a++b)):=by show bi (blt (Nat.add (len' a) (len' b)) 9223372036854775808) (some (j5.str (dK a b))) none=_;rw[K7,K7,V9,show blt (Nat.add a.length b.length) 9223372036854775808=true from O8.mpr h];rfl
section
variable {x lo hi:OF}{ls:cM}{env:T j5}{s:List cL}{l h:Nat}
def Nh(e:x ls env=.str s)(d:lo ls env=.int .i64 (l:Int))(c:hi ls env=.int .i64 (h:Int))(a:l<=h)(b:h<=s.length):vX x (some lo) (some hi) ls env=some (.str ((s.drop l).take (h-l))):=by
 show xM (x ls env) (λs=>jC (lo ls env) λl=>jC (hi ls env) λh=>bi (ble l h) (bi (ble h (len' s)) (ob (takeN (Nat.sub h l) (iA l s)) λr=>some (j5.str r)) none) none)=_;rw[e,Ij,d,kQ,je,c,kQ,je,show ble l h=true from l7 a,K7,show ble h s.length=true from l7 b,aC,aC,fC,
  show Nat.sub h l=h-l from rfl,iL _ _ ZD];rfl
def Sb(c:x ls env=.str s)(b:hi ls env=.int .i64 (h:Int))(a:h<=s.length):vX x none (some hi) ls env=some (.str (s.take h)):=by
 show xM (x ls env) (λs=>jC (hi ls env) λh=>bi (ble 0 h) (bi (ble h (len' s)) (ob (takeN (Nat.sub h 0) (iA 0 s)) λr=>some (j5.str r)) none) none)=_;rw[c,Ij,b,kQ,je,show ble 0 h=true from l7 (ahe _),K7,show ble h s.length=true from l7 a,aC,aC,fC,
  show Nat.sub h 0=h from rfl,W9,iL _ _ a];rfl
def JZ(c:x ls env=.str s)(b:lo ls env=.int .i64 (l:Int))(a:l<=s.length):vX x (some lo) none ls env=some (.str (s.drop l)):=by
 show xM (x ls env) (λs=>jC (lo ls env) λl=>bi (ble l (len' s)) (bi (ble (len' s) (len' s)) (ob (takeN (Nat.sub (len' s) l) (iA l s)) λr=>some (j5.str r)) none) none)=_;rw[c,Ij,b,kQ,je,K7,show ble l s.length=true from l7 a,show ble s.length s.length=true from l7 (aA _),aC,aC,fC,
  show Nat.sub s.length l=s.length-l from rfl,iL _ _ ZZ,P9 ZZ];rfl
def zH(d:x ls env=.str s)(c:lo ls env=.int .i64 (l:Int))(a:l<s.length):Dc x lo ls env=some (.int .u8 (s[l].toNat:Nat)):=by show xM (x ls env) (λs=>jC (lo ls env) λk=>ob (vU k s) λb=>some (j5.int .u8 b.toNat))=_;rw[d,Ij,c,kQ,je,nu,cB a];rfl
def ae4{b:cL}{t:List cL}(c:x ls env=.str (b::t))(a:lo ls env=.int .i64 0):Dc x lo ls env=some (.int .u8 (b.toNat:Nat)):=by have:=zH (l:=0) c (by simpa using a) ZZ;simpa using this
end
def strs(l:List (List cL)):cM:=l.map j5.str
def G7(l:List (List cL)):(strs l).length=l.length:=by simp[strs]
def rX:∀l:List (List cL),H8 (strs l)=true
 |[]=>rfl
 |_::l=>by show bi true (H8 (strs l)) false=true;rw[rX l];rfl
def Sc:∀l:cQ,H8 (ints l)=true
 |[]=>rfl
 |_::l=>by show bi true (H8 (ints l)) false=true;rw[Sc l];rfl
def vM(a b:List (List cL)):strs (a++b)=strs a++strs b:=by simp[strs]
def zI(a b:cQ):ints (a++b)=ints a++ints b:=by simp[ints]
def mV(m:cD)(rs:Nat)(v:j5)(l:List cM):Prop:=
 (v=.nilSlice∧l=[])∨∃id o,((∃c,v=.slice id (o*rs) l.length c∧l.length<=c)∨v=.sliceU id (o*rs) l.length rs)∧id<m.nx∧
  (l=[]∨∃n cF,m.get id=some (.cells rs n cF)∧o+l.length<=n∧(∀r,r∈l->r.length=rs)∧∀i (h:i<l.length),cF.get (o+i)=some l[i])
variable {r:cM}
section
variable {m m':cD}{rs:Nat}{v:j5}{l:List cM}
def mV.keep(a:mV m rs v l)(hn:m.nx<=m'.nx)(h:∀id n cF,id<m.nx->m.get id=some (.cells rs n cF)->(∃o l c,v=.slice id o l c)∨(∃o l e,v=.sliceU id o l e)->m'.get id=m.get id):mV m' rs v l:=by rcases a with a|⟨id,o,h1,h2,h3⟩;exact .inl a;refine .inr ⟨id,o,h1,aP h2 hn,?_⟩;rcases h3 with h3|⟨n,cF,h4,h5⟩;exact .inl h3;refine .inr ⟨n,cF,(h id n cF h2 h4 ?_).trans h4,h5⟩;rcases h1 with⟨c,rfl,_⟩|rfl;exact .inl ⟨_,_,_,rfl⟩;exact .inr ⟨_,_,_,rfl⟩
def mV.ext(h:cE m m')(b:mV m rs v l):mV m' rs v l:=b.keep h.nx λid _ _ a _ _=>h.old id a
def mV.cells(h:mV m rs v l):v.cells=[v]:=by rcases h with⟨rfl,rfl⟩|⟨id,off,⟨c,rfl,_⟩|rfl,_⟩<;>rfl
def mV.aL(h:mV m rs v l)(p:j5->β)(q:β):iK v p q=q:=by rcases h with⟨rfl,rfl⟩|⟨id,off,⟨c,rfl,_⟩|rfl,_⟩<;>rfl
def mV.D8(h:mV m rs v l):Go.AM.D8 v=true:=by rcases h with⟨rfl,rfl⟩|⟨id,off,⟨c,rfl,_⟩|rfl,_⟩<;>rfl
def mV.len(h:mV m rs v l):xC v (some (j5.int .i64 0)) (λ_ _ n _=>some (.int .i64 n)) (λ_ _ n _=>some (.int .i64 n))=some (.int .i64 l.length):=by rcases h with⟨rfl,rfl⟩|⟨id,off,⟨c,rfl,_⟩|rfl,_⟩<;>rfl
def mV.lenOf(h:mV m rs v l):Go.AM.lenOf v=some l.length:=by rcases h with⟨rfl,rfl⟩|⟨id,off,⟨c,rfl,_⟩|rfl,_⟩<;>rfl
def YV{n rs:Nat}(hi:i<n)(h:cF.get i=some r)(d:r.length=rs){j k:Nat}(b:j<rs)(c:j+k<=rs):RU (some (.cells rs n cF)) (i*rs+j) k=some (.agg ((r.drop j).take k)):=by show aY (some (Y9.cells rs n cF)) (λa n cF=>ob (qp a n cF (i*rs+j) k) λl=>some (j5.agg l))=_;rw[dJ,wN b hi h d c,I6]
def mV.at(h:mV m rs v l){i:Nat}(hi:i<l.length):
   ∃id o,xC v none (λid off len _=>idx len (.int .i64 i) λk=>some (j5.ptr id (off+k*rs))) (λid off len _=>idx len (.int .i64 i) λk=>some (j5.ptr id (off+k*rs)))=some (.ptr id o)∧id<m.nx∧
    (l[i]).length=rs∧(∀j k,j<rs->j+k<=rs->RU (m.get id) (o+j) k=some (.agg (((l[i]).drop j).take k)))∧∀j,j<rs->ld1 (m.get id) (o+j)=(l[i])[j]?:=by
 rcases h with⟨_,rfl⟩|⟨id,off,h1,h2,h3⟩;simp at hi;rcases h3 with rfl|⟨n,a,h4,h5,h7,h6⟩;simp at hi;have b:=h7 l[i] (ql hi);refine⟨id,off*rs+i*rs,?_,h2,b,λj k d f=>?_,λj d=>?_⟩;rcases h1 with⟨c,rfl,_⟩|rfl;simp only[vI];rw[Z0 _ _ _ hi];simp only[rV];rw[Z0 _ _ _ hi];rw[← ajx,h4];exact YV Zs (h6 i hi) b d f;rw[← ajx,h4];show aY (some (Y9.cells rs n a)) (λe n a=>cell1 e n a ((off+i)*rs+j))=_;rw[dJ,iw d Zs (h6 i hi)]
end
def cu(lo rs:Nat)(m:cD)(v:j5)(l:List cM):Prop:=
 (v=.nilSlice∧l=[])∨∃id,lo<=id∧id<m.nx∧H8 l.flatten=true∧xQ m id rs l∧l≠[]∧(v=.slice id 0 l.length l.length∨v=.sliceU id 0 l.length rs)
section
variable {m m':cD}{lo rs:Nat}{v:j5}{l:List cM}
def cu.nil(lo rs:Nat)(m:cD):cu lo rs m .nilSlice []:=.inl ⟨rfl,rfl⟩
def cu.keep(h:cu lo rs m v l)(hn:m.nx<=m'.nx)(a:∀i,lo<=i->i<m.nx->m'.get i=m.get i):cu lo rs m' v l:=by rcases h with h|⟨id,h1,h2,h3,h4,h5⟩;exact .inl h;exact .inr ⟨id,h1,aP h2 hn,h3,h4.same (a id h1 h2),h5⟩
def cu.ext(h:cu lo rs m v l)(e:cE m m'):cu lo rs m' v l:=h.keep e.nx λi _ a=>e.old i a
def cu.lt(h:cu lo rs m v l){o n e:Nat}(a:v=.sliceU i o n e):lo<=i∧i<m.nx:=by rcases h with⟨rfl,_⟩|⟨id,h1,h2,_,_,_,rfl|rfl⟩;cases a;cases a;cases a;exact⟨h1,h2⟩
def cu.down{a:Nat}(h:cu lo rs m v l)(b:a<=lo):cu a rs m v l:=by rcases h with h|⟨id,h1,h2⟩;exact .inl h;exact .inr ⟨id,dn b h1,h2⟩
def cu.slice(h:cu lo rs m v l):mV m rs v l:=by rcases h with h|⟨id,h1,h2,h3,h4,_,h5⟩;exact .inl h;let⟨p,b,c,t,g,d,e,j,k,f⟩:=h4;refine .inr ⟨id,0,?_,h2,.inr ⟨c,t,d,by simpa using e,b,λi a=>?_⟩⟩;rw[ah3];rcases h5 with h5|h5;exact .inl ⟨_,h5,aA _⟩;exact .inr h5;simp only[P7];exact f i a
def aaU{n es:Nat}(h:n<=100000)(hb:1<=bytes∧bytes<=1000)(a:1<=es):big n bytes es=true:=by show bi (ble ((2*n+2048)*bytes) 281474976710656) (bi (ble 1 es) (ble 1 bytes) false) false=true;rw[show ble ((2*n+2048)*bytes) 281474976710656=true from l7 (dn (axi (show 2*n+2048<=202048 by omega) hb.2) ZS),show ble 1 bytes=true from l7 hb.1,show ble 1 es=true from l7 a];rfl
def Sd(e:m.Ok)(a:lo<=m.nx)(hp:0<rs)(c:∀r,r∈l->r.length=rs)(d:H8 l.flatten=true)(b:l≠[]):grown m rs l.length l.flatten=some [⟨.sliceU m.nx 0 l.length rs,m.new (.cells rs l.length (T.ofList l))⟩]∧cu lo rs (m.new (.cells rs l.length (T.ofList l))) (.sliceU m.nx 0 l.length rs) l:=
 ⟨Co (m:=m) c,.inr ⟨m.nx,a,ZZ,d,Em e hp c,b,.inr rfl⟩⟩
def aaV(f:m.Ok)(N:m.lim<=lo)(w:lo<=m.nx)(hp:0<rs)(h:cu lo rs m v l)(I:r.length=rs)(F:H8 r=true)(hb:l.length+1<=100000)(k:1<=bytes∧bytes<=1000):
   ∃v' m',jS m rs bytes 1 r v=some [⟨v',m'⟩]∧cu m.nx rs m' v' (l++[r])∧Fr lo lo m m'∧(∀i,i<m.nx->(∀o n e,v≠.sliceU i o n e)->m'.get i=m.get i):=by
 have B:∀b,∀i,i<m.nx->(∀o n e,v≠.sliceU i o n e)->(m.new b).get i=m.get i:=λb i C _=>by rw[cD.Q5 f,aE Zs]
 have q:[r].flatten=r:=ZZ
 rcases h with⟨rfl,rfl⟩|⟨id,i1,i2,i3,ha,hne,K⟩;let⟨g,o⟩:=Sd (lo:=m.nx) (rs:=rs) (l:=[r]) f (aA _) hp (by simpa using I) (by rw[q];exact F) ZZ;refine⟨_,_,?_,by rw[O9];exact o,Fr.new f w _,B _⟩;rw[← g,q];show bi (big 1 bytes rs) _ none=_;rw[aaU ZZ k hp];rfl;have s:H8 (l++[r]).flatten=true:=by rw[List.flatten_append,q,bL,i3,F];rfl
 have y:∀x,x∈l++[r]->x.length=rs:=λx V=>by rcases LA.1 V with h|h;exact ha.len x h;rw[lM.1 h];exact I
 let⟨p,U,c,t,E,O,P,Z,D,Q⟩:=ha;have z:0<l.length:=P6.2 hne;have J:J7 rs c t (l.length*rs) 0=some l.flatten:=by
  have:=jL (rs:=rs) (n:=c) (cF:=t) U Q P l.length 0 ZZ
  rwa [ah3,W9]at this
 rcases K with rfl|rfl;let⟨g,o⟩:=Sd (lo:=m.nx) (rs:=rs) (l:=l++[r]) f (aA _) hp y s ZZ;refine⟨_,_,?_,o,Fr.new f w _,B _⟩;rw[← g];show gF m rs bytes 1 r id 0 l.length l.length=_;unfold gF;have R:ble (Nat.add l.length 1) l.length=false:=by rw[aa0];intro e;have:l.length+1<=l.length:=D5 e;omega
 have S:Z6 m id 0 (Nat.mul l.length rs)=some l.flatten:=by have e:Nat.mul l.length rs=l.length*rs:=rfl;rw[e];obtain⟨j,M⟩:∃j,l.length*rs=j+1:=⟨l.length*rs-1,by have:=Nat.mul_pos z hp;omega⟩;rw[M];show aY (m.get id) (λL W cF=>J7 L W cF (j+1) 0)=_;rw[O,dJ,← M,J]
 rw[R,bA,show Nat.add l.length 1=(l++[r]).length from by simp,aaU (by simpa using hb) k hp,aC,S,I6,V9];simp;have a:(m.set id .dead).Ok:=cD.Ok.set f i2 _;have G:∀b,Fr lo lo m ((m.set id .dead).new b):=λb=>⟨cD.Ok.new a _,ZZ,ZZ,λi C _=>by
  rw[cD.Q5 a,aE ZD,cD.R9 f i2,aE Zs]⟩
 have u:ble m.lim id=true:=l7 Zs;have A:∃c'',l.length+1<=c''∧T.Ok (t.put l.length r) c'':=by
  by_cases hc:l.length<E;exact⟨E,hc,T.Ok.put D _ _ hc⟩;obtain rfl:E=l.length:=Zs
  exact⟨l.length+1,aA _,T.Ok.push D _⟩
 let⟨c'',X,Y⟩:=A;refine⟨.sliceU m.nx 0 (l.length+1) rs,(m.set id .dead).new (.cells rs (l.length+1) (t.put l.length r)),?_,.inr ⟨m.nx,aA _,ZZ,s,⟨hp,y,l.length+1,t.put l.length r,c'',?_,ZZ,X,Y,λi C=>?_⟩,ZZ,.inr ZZ⟩,G _,λi C K=>?_⟩;show ng m rs bytes 1 r id 0 l.length rs=_;show bi (beq rs rs) (bi (big (l.length+1) bytes rs) (bi (ble m.lim id) (bi (H8 r) (uS (m.get id) _ _) none) none) none) none=_;rw[aaU (by simpa using hb) k hp,u,F,O,show beq rs rs=true from ah6 rs];show bi (bi (beq rs rs) (bi (beq 0 0) (bi (ble l.length c) (bi (beq 1 1) (beq (len' r) rs) false) false) false) false) _ _=_;rw[show ble l.length c=true from l7 P,K7,I,show beq rs rs=true from ah6 rs];rfl;rw[cD.Q5 a];simp;by_cases hil:i=l.length;subst hil;rw[T.aN D _ _ Zs];simp;have d:i<l.length:=by simp at C;omega
 rw[T.bU D _ _ _ Zs (aqR hil),Q i d];simp[ai8,d];have H:i≠id:=by rintro rfl;exact K _ _ _ rfl
 rw[cD.Q5 a,aE ZD,cD.R9 f i2,aE H]
def Ik{x:j5}(F:m.Ok)(a:m.lim<=lo)(g:lo<=m.nx)(hp:0<rs)(h:cu lo rs m v l)(w:mV m rs x [r])(u:r.length=rs)(D:H8 r=true)(hb:l.length+1<=100000)(b:1<=bytes∧bytes<=1000):
   ∃v' m',(∀(s y:OF) (cf:G6) (ls:cM) (env:T j5),s ls env=v->y ls env=x->lu rs bytes s y cf ls env m=some [⟨v',m'⟩])∧cu m.nx rs m' v' (l++[r])∧Fr lo lo m m'∧(∀i,i<m.nx->(∀o n e,v≠.sliceU i o n e)->m'.get i=m.get i):=by
 let⟨v',m',z,A,B,C⟩:=aaV F a g hp h u D hb b;refine⟨v',m',λs y cf ls env G H=>?_,A,B,C⟩;have k:Z8 m rs 1 x=some r:=by
  rcases w with⟨_,h⟩|⟨id,o,q1,q2,q3⟩;cases h;rcases q3 with h|⟨n,cF,e1,e2,e3,e4⟩;cases h;have p:Z6 m id (o*rs) (Nat.mul 1 rs)=some r:=by
   have e:Nat.mul 1 rs=1*rs:=rfl;have f:=El (rs:=rs) (n:=n) (cF:=cF) (i:=o) (by simp at e2;omega) (by simpa using e4 0 ZZ) u;obtain⟨j,E⟩:∃j,1*rs=j+1:=⟨rs-1,Zs⟩;have d:rs=j+1:=Zs
   rw[e,E];show aY (m.get id) (λt I cF=>J7 t I cF (j+1) (o*rs))=_;rw[e1,dJ,← d];have:=f rs 0 Zs
   rwa [adh,W9]at this
  rcases q1 with⟨c,rfl,_⟩|rfl<;>exact p
 show ob (AM.lenOf (y ls env)) (λn=>ob (Z8 m rs n (y ls env)) λq=>jS m rs bytes n q (s ls env))=_;rw[H,G,w.lenOf,I6];show ob (Z8 m rs 1 x) _=_;rw[k,I6];exact z
def UL(b:m.Ok)(r:cM)(hp:0<r.length):mV (m.new (j6 r)) r.length (.slice m.nx 0 1 1) [r]:=
 .inr ⟨m.nx,0,.inl ⟨1,ZZ,ZZ⟩,ZZ,.inr ⟨1,T.ofList [r],by rw[cD.Q5 b,cg rfl];simp[j6];rfl,ZZ,ZZ,λi a=>by
  obtain rfl:i=0:=by simpa using a
  rw[T.bV];rfl⟩⟩
end
open Go Go.RowKit
section
variable {P:cH}{G:cD}{ι:Q0}{m:cD}{w w':cG}
def Cq(h:RM P G ι m w.heap)(hb:Below w.heap.size w w'):Step P G ι m w ι m w':=by refine⟨⟨h.ok,λi x a=>?_,λi x o a d=>?_,h.glim,h.limn,h.gle,h.base,h.ghas,h.glob,h.spot,h.QT λk p _=>hb.block k p⟩,λ_ _=>rfl,λ_ h=>h,aA _,rfl,λ_ _=>rfl,hb.size,λb f _=>hb.block b f,λ_ h=>.inl h,hb.os,hb.output,hb.tape⟩;exact(h.blk i x a).mono (n:=m.nm ι) (λ_ _=>rfl) (cD.dL (λ_ h=>h) λ_ _=>rfl) λd=>hb.block _ (iG (h.blk i x a) d);have j:=h.own i x o a d;refine⟨j.alone,λc e l g=>?_⟩;rw[hb.block _ (iG (h.blk i x a) d)]at g;exact j.free c e l g
def aaW(h:RM P G ι m w.heap)(hb:Below w.heap.size w w')(b:Y9)(l:Loc)(A:jU b=false)(z:w.heap.size<=l.b)
   (n:iF P (ι.upd m.nx l) ((m.new b).nm (ι.upd m.nx l)) w'.heap l b)
   (f:bN b=true->∀c e fz,w'.heap[l.b]?=some (.cells c e fz)->∀k,k<c.size->¬ (fz.1<=k∧k<fz.2)) (g:bN b=true->l.spot=none):
   Step P G ι m w (ι.upd m.nx l) (m.new b) w':=by
 have t:=Cq h hb;have B:=t.trans (JJ t.rm);have d:=cD.Q5 h.ok .void;have a:(m.new .void).get m.nx=some .void:=by rw[d,cg rfl]
 have C:=B.rename (ι2:=ι.upd m.nx l) λi ⟨x,hx,hxv⟩=>ι.upd_ne l λe=>by subst e;rw[a]at hx;cases hx;cases hxv
 have e:(m.new .void).set m.nx b=m.new b:=cD.WY h.ok .void b;have u:=C.add (id:=m.nx) (b:=b) a h.limn ⟨by rw[e,ι.aF];exact n,A,λo j y r s p=>?_,λo c v fz q=>?_,λo=>by rw[ι.aF];exact g o⟩ (λ_=>by rw[ι.aF];exact z);rw[e]at u;exact u;rw[d,aE r]at s;rw[ι.aF,ι.upd_ne l r];have:=iG (h.blk j y s) p;omega;rw[ι.aF]at q;exact f o c v fz q
end
section
variable {P:cH}{G:cD}
def vN{f:FuncId}{args:cM}{v:j5}(a:Bh (layAll [] G).nx ⟨v,Q7 G []⟩=some ⟨v,[]⟩)(c:∀n:Nm,v.lt n)(h:∀ι ι',u7 ι v=u7 ι' v)
   (g:∀(ι:Q0) (w:cG),RM P G ι (Q7 G []) w.heap->Calls P f (A9 ι args).toArray w λe w'=>e=.returned (u7 ι v)∧Below w.heap.size w w'):lI P G f args [] ⟨v,[]⟩:=by
 intro ι w d b;refine callsIn_wide.2 ((g ι w d).mono ?_);rintro e w' ⟨rfl,hb⟩;exact⟨ι,⟨v,Q7 G []⟩,Cq d hb,c _,rfl,a⟩
def Pk{f:FuncId}{args:cM}{v:j5}{nb:NB}(a:Bh (layAll [] G).nx ⟨v,(Q7 G []).new (fB nb)⟩=some ⟨v,[nb]⟩)
   (i:∀(ι:Q0) (w:cG),RM P G ι (Q7 G []) w.heap->Calls P f (A9 ι args).toArray w λe w'=>∃l:Loc,e=.returned (u7 (ι.upd G.nx l) v)∧Below w.heap.size w w'∧w.heap.size<=l.b∧
    v.lt (((Q7 G []).new (fB nb)).nm (ι.upd G.nx l))∧iF P (ι.upd G.nx l) (((Q7 G []).new (fB nb)).nm (ι.upd G.nx l)) w'.heap l (fB nb)∧
    (bN (fB nb)=true->(∀c e fz,w'.heap[l.b]?=some (.cells c e fz)->∀k,k<c.size->¬ (fz.1<=k∧k<fz.2))∧l.spot=none)):lI P G f args [] ⟨v,[nb]⟩:=by
 intro ι w h d;refine callsIn_wide.2 ((i ι w h).mono ?_);rintro e w' ⟨l,rfl,hb,hA,hlt,hblk,hfs⟩;have j:(Q7 G []).nx=G.nx:=rfl;exact⟨ι.upd G.nx l,⟨v,(Q7 G []).new (fB nb)⟩,aaW h hb (fB nb) l (Cj nb) hA hblk (λg=>(hfs g).1) (λg=>(hfs g).2),hlt,rfl,a⟩
end
end Go.AM
namespace Go.AM
open Go Go.RowKit
open Nat (beq ble blt)
noncomputable section
def UM(rs:Nat)(cF:List cM):Bc (.cells rs (len' cF) (T.ofList cF))=some (.cells rs cF):=by show ob ((T.ofList cF).slice (len' cF) 0) (λl=>some (NB.cells rs l))=_;rw[K7,Ef];rfl
def UO(m:cD)(lo n:Nat)(a:List (Nat×NB)):reach m lo (n+1) [] a=some a.reverse:=rfl
def FD{m:cD}{lo i:Nat}{b:Y9}{nb:NB}(h:m.get i=some b)(hb:Bc b=some nb)(hi:QJ lo nb=[])(n:Nat):reach m lo (n+2) [i] []=some [(i,nb)]:=by show bi (Ml i []) (reach m lo (n+1) [] []) (ob (m.get i) λb=>ob (Bc b) λnb=>reach m lo (n+1) (QJ lo nb++[]) [(i,nb)])=_;rw[h,I6,hb,I6,hi];rfl
def Ka(lo:Nat):∀ws:List (List cL),QJ lo (.cells 1 (ws.map λw=>[j5.str w]))=[]
 |[]=>rfl
 |w::ws=>by show sK lo [j5.str w]++QJ lo (.cells 1 (ws.map λw=>[j5.str w]))=[];rw[Ka lo ws];rfl
def zJ(r:Nat->Option Nat):∀ws:List (List cL),nY r (ws.map λw=>[j5.str w])=some (ws.map λw=>[j5.str w])
 |[]=>rfl
 |w::ws=>by show ob (pR r [j5.str w]) (λx=>ob (nY r (ws.map λw=>[j5.str w])) λy=>some (x::y))=_;rw[zJ r ws];rfl
def Ni(lo:Nat):uq lo [lo] lo=some lo:=by show bi (ble lo lo) (bi (beq lo lo) (some lo) none) _=_;rw[show ble lo lo=true from l7 (aA _),show beq lo lo=true from ah6 lo];rfl
section
variable {G:cD}
def aaX(b:T.Ok G.t G.nx)(ws:List (List cL))(n c:Nat):Bh (layAll [] G).nx ⟨.slice G.nx 0 n c,(Q7 G []).new (fB (.cells 1 (ws.map λw=>[j5.str w])))⟩=some ⟨.slice G.nx 0 n c,[.cells 1 (ws.map λw=>[j5.str w])]⟩:=by
 have e:((Q7 G []).new (fB (.cells 1 (ws.map λw=>[j5.str w])))).get G.nx=some (.cells 1 (len' (ws.map λw=>[j5.str w])) (T.ofList (ws.map λw=>[j5.str w]))):=by rw[cD.Q5 (m:=Q7 G []) b];exact cg rfl
 have g:=FD (lo:=G.nx) e (UM 1 _) (Ka G.nx ws) 99998;have f:sK G.nx [j5.slice G.nx 0 n c]=[G.nx]:=by show bi (ble G.nx G.nx) [G.nx] []++[]=_;rw[show ble G.nx G.nx=true from l7 (aA _)];rfl
 have d:kK G.nx [j5.slice G.nx 0 n c] ((Q7 G []).new (fB (.cells 1 (ws.map λw=>[j5.str w]))))=some ⟨[G.nx],[.slice G.nx 0 n c],[.cells 1 (ws.map λw=>[j5.str w])]⟩:=by show ob (reach _ G.nx (99998+2) (sK G.nx _) []) _=_;rw[f,g];show ob (ob (ob (uq G.nx [G.nx] G.nx) λj=>some (j5.slice j 0 n c)) λx=>ob (some []) λy=>some (x::y)) (λh=>ob (ob (ob (nY (uq G.nx [G.nx]) (ws.map λw=>[j5.str w])) λx=>some (NB.cells 1 x)) λx=>ob (some []) λy=>some (x::y)) λa=>some (⟨[G.nx],h,a⟩:CO))=_;rw[Ni,zJ];rfl
 show ob (kK G.nx [j5.slice G.nx 0 n c] _) _=_;rw[d];rfl
def Sg(b:T.Ok G.t G.nx)(k:Int)(t:cI):Bh (layAll [] G).nx ⟨.tuple [.int .i64 k,.iface t (.ptr G.nx 0)],(Q7 G []).new .dead⟩=some ⟨.tuple [.int .i64 k,.iface t (.ptr G.nx 0)],[.dead]⟩:=by
 have d:((Q7 G []).new .dead).get G.nx=some .dead:=by rw[cD.Q5 (m:=Q7 G []) b];exact cg rfl
 have f:=FD (lo:=G.nx) d (nb:=.dead) rfl rfl 99998;have e:sK G.nx [j5.tuple [.int .i64 k,.iface t (.ptr G.nx 0)]]=[G.nx]:=by show([]++(bi (ble G.nx G.nx) [G.nx] []++[]))++[]=_;rw[show ble G.nx G.nx=true from l7 (aA _)];rfl
 have c:kK G.nx [j5.tuple [.int .i64 k,.iface t (.ptr G.nx 0)]] ((Q7 G []).new .dead)=some ⟨[G.nx],[.tuple [.int .i64 k,.iface t (.ptr G.nx 0)]],[.dead]⟩:=by show ob (reach _ G.nx (99998+2) (sK G.nx _) []) _=_;rw[e,f];show ob (ob (ob (ob (some (j5.int .i64 k)) λx=>ob (ob (ob (ob (uq G.nx [G.nx] G.nx) λj=>some (j5.ptr j 0)) λx=>some (j5.iface t x)) λx=>ob (some []) λy=>some (x::y)) λy=>some (x::y)) λx=>some (j5.tuple x)) λx=>ob (some []) λy=>some (x::y)) (λg=>ob (some [NB.dead]) λa=>some (⟨[G.nx],g,a⟩:CO))=_;rw[Ni];rfl
 show ob (kK G.nx _ _) _=_;rw[c];rfl
end
def wP{lo:Nat}{v:j5}(m:cD)(b:sK lo [v]=[])(c:∀r,pR r [v]=some [v]):kK lo [v] m=some ⟨[],[v],[]⟩:=by show ob (reach m lo (99999+1) (sK lo [v]) []) _=_;rw[b,UO];show ob (pR (uq lo []) [v]) (λd=>ob (some []) λa=>some (⟨[],d,a⟩:CO))=_;rw[c];rfl
def tJ{K:Known}{cf:G6}{b:Nat}{f:FuncId}{sf:L6}{args:cM}{m:cD}{c:CO}{a:EK}(g:kK K.base.nx args m=some c)(d:K.sum f c.vs c.bs=some a):
   yL K cf b f sf args m=ob (iT (iU K.base.nx c.ids m.nx) a.v) λv=>ob (xE (iU K.base.nx c.ids m.nx) a.bs) λbs=>one v (layAll bs m):=by
 show ob (kK K.base.nx args m) (λc=>ob (Gt K cf b f sf c.vs c.bs) λa=>ob (iT (iU K.base.nx c.ids m.nx) a.v) λv=>ob (xE (iU K.base.nx c.ids m.nx) a.bs) λbs=>one v (layAll bs m))=_;rw[g,I6];have e:Gt K cf b f sf c.vs c.bs=some a:=by unfold Gt;rw[d]
 rw[e,I6]
def Kc(g next:Nat):iU g [] next g=some next:=by show bi (blt g g) (some g) (bi (blt (g-g) 0) (vU (g-g) []) (some (next+(g-g-0))))=_;rw[show blt g g=false from aa0.2 λe=>cj (O8.mp e) (avw _),axD];rfl
open Go
def iP(sep:List cL)(l:List (List cL)):List cL:=List.rec [] (λs t ih=>List.rec s (λ_ _ _=>dK s (dK sep ih)) t) l
def wQ(l:List cM):Option (List (List cL)):=List.rec (some []) (λr _ ih=>match r with
 |[.str s]=>ob ih λt=>some (s::t)
 |_=>none) l
def Bg(c:cL)(s:List cL):List (List cL):=
 List.rec [[]] (λb _ ih=>bi (beq b.toNat c.toNat) ([]::ih) (List.rec [[b]] (λh t _=>(b::h)::t) ih)) s
def oM(c:cL)(s:List cL):Int:=List.rec (Int.negSucc 0) (λb _ ih=>bi (beq b.toNat c.toNat) 0 (bi (qC ih (Int.negSucc 0)) (Int.negSucc 0) (ih+1))) s
def nI(c:cL)(s:List cL):Nat:=List.rec 0 (λb _ ih=>bi (beq b.toNat c.toNat) (Nat.succ ih) ih) s
def ae5(fi fn fj nx:Nat)(f:FuncId)(args:cM)(bs:List NB):Option EK:=
 bi (beq f fi) (match args,bs with
  |[.str s,.str [c]],[]=>bi (blt (len' s) 1000000) (some ⟨.int .i64 (oM c s),[]⟩) none
  |_,_=>none)
 (bi (beq f fn) (match args,bs with
  |[.str s,.str [c]],[]=>bi (blt (len' s) 1000000) (some ⟨.int .i64 (.ofNat (nI c s)),[]⟩) none
  |_,_=>none)
 (bi (beq f fj) (match args,bs with
  |[v,.str sep],[.cells 1 cF]=>xC v none
   (λid off n c=>bi (beq id nx) (bi (ble n c) (bi (blt n 1000000) (ob (takeN n (iA off cF)) λl=>ob (wQ l) λws=>bi (blt (len' (iP sep ws)) 1000000) (some ⟨.str (iP sep ws),[]⟩) none) none) none) none)
   (λid off n _=>bi (beq id nx) (bi (blt n 1000000) (ob (takeN n (iA off cF)) λl=>ob (wQ l) λws=>bi (blt (len' (iP sep ws)) 1000000) (some ⟨.str (iP sep ws),[]⟩) none) none) none)
  |[.nilSlice,.str _],[]=>some ⟨.str [],[]⟩
  |_,_=>none) none))
def En{α:Type}(t:T α):∀(l:List α) (i:Nat),(∀j,j<l.length->t.get (i+j)=l[j]?)->t.slice l.length i=some l
 |[],i,h=>rfl
 |x::l,i,h=>by
  rw[aa5,T.BQ];have h0:=h 0 ZZ;rw[adh]at h0;rw[h0,awM,I6,En t l (i+1) (λj hj=>by
   have:=h (j+1) ZD;rw[show i+1+j=i+(j+1)from by omega,this,ajp])]
  rfl
def jH(lo:Nat)(m:cD)(v:j5)(l:List (List cL)):Prop:=
 (v=.nilSlice∧l=[])∨∃id t c,lo<=id∧id<m.nx∧l≠[]∧v=.sliceU id 0 l.length 1∧m.get id=some (.cells 1 l.length t)∧T.Ok t c∧l.length<=c∧∀i (h:i<l.length),t.get i=some [.str l[i]]
section
variable {lo:Nat}{m m':cD}{v:j5}{l:List (List cL)}
def jH.keep(h:jH lo m v l)(hn:m.nx<=m'.nx)(a:∀i,lo<=i->i<m.nx->m'.get i=m.get i):jH lo m' v l:=by rcases h with h|⟨id,t,c,h1,h2,h3,h4,h5,h6⟩;exact .inl h;exact .inr ⟨id,t,c,h1,aP h2 hn,h3,h4,(a id h1 h2).trans h5,h6⟩
def jH.ext(h:jH lo m v l)(e:cE m m'):jH lo m' v l:=h.keep e.nx λi _ a=>e.old i a
def jH.cells(h:jH lo m v l):v.cells=[v]:=by rcases h with⟨rfl,_⟩|⟨id,t,c,_,_,_,rfl,_⟩<;>rfl
def jH.D8(h:jH lo m v l):Go.AM.D8 v=true:=by rcases h with⟨rfl,_⟩|⟨id,t,c,_,_,_,rfl,_⟩<;>rfl
def jH.aL(h:jH lo m v l){β:Type}(p:j5->β)(q:β):iK v p q=q:=by rcases h with⟨rfl,_⟩|⟨id,t,c,_,_,_,rfl,_⟩<;>rfl
def Ke:∀l:List (List cL),wQ (l.map λw=>[j5.str w])=some l
 |[]=>rfl
 |w::l=>by show ob (wQ (l.map λw=>[j5.str w])) (λt=>some (w::t))=_;rw[Ke l];rfl
end
section
variable (cf:G6)(fu:Nat)(ls:cM)(env:T j5)(m:cD)(k:List Mk)
@[simp] theorem akc(x:OF):vZ x cf ls env m=adq (x ls env) m:=id rfl
@[simp] theorem ahJ(t:cI)(v:j5):adq (.iface t v) m=some [⟨.aL (.iface t v),m⟩]:=id rfl
@[simp] theorem ahK(x:j5):oC k ⟨env,m,some x,[]⟩=some [⟨.ret,env,m,k,some x⟩]:=id rfl
@[simp] theorem ahL(x:Mk):oC k ⟨env,m,none,[x]⟩=some [⟨.normal,env,m,x::k,none⟩]:=id rfl
@[simp] theorem akd(a:ni)(rs:List rC)(x:j5):leave a rs ⟨.ret,env,m,[],some x⟩=some [⟨.aL x,m⟩]:=id rfl
@[simp] theorem agR:kI .nilIface .nilIface=some true:=id rfl
@[simp] theorem ae6(t:cI)(v:j5):kI (.iface t v) .nilIface=some false:=id rfl
@[simp] theorem ake(r:RC):yH r cf fu none env m k=bnd (r cf [] env m) (oC k):=id rfl
@[simp] theorem al3(g:OF)(args:List OF):Df g args cf ls env m=Qx (g ls env) λfn a b=>some [⟨env,m,none,[.d (.func fn a b) (evs args ls env)]⟩]:=id rfl
def behind(rs:List rC)(env:T j5)(r:cD×Option j5):pQ:=BN rs env r.2 r.1
def Xb(c:ni)(rs:List rC)(f:FuncId)(a b args:cM)(pv:Option j5):leave c rs ⟨.ret,env,m,[.d (.func (.func f) a b) args],pv⟩=bnd (c f (a++(args++b)) pv m) (behind rs env):=by show bnd (c f (dK a (dK args b)) pv m) (behind rs env)=_;rw[V9,V9]
@[simp] theorem akf(rs:List rC):behind rs env (m,none)=ob (results rs env m) λl=>some [⟨result l,m⟩]:=id rfl
def agS(b:bM)(r:Ue):Option (List Ue):=match r.o.x with
 |.normal=>match r.o.marks with
  |[]=>Bj b cf fu r.o.env r.o.m r.md
  |_=>none
 |_=>some [r]
variable (md:Option j5)
def Xc(a b:bM):Bj (.seq a b) cf fu env m md=bnd (Bj a cf fu env m md) (agS cf fu b):=rfl
def Si(c:aS)(a b:bM):Bj (.cond c a b) cf fu env m md=rE (J6 c [] env) λt=>bi t (Bj a cf fu env m md) (Bj b cf fu env m md):=rfl
def al4(r:EM×Option j5):Option (List Ue):=some [⟨⟨.normal,r.1.env,r.1.m,[],none⟩,r.2⟩]
def Pm(md:Option j5)(o:Out):Option (List Ue):=some [⟨o,md⟩]
def Sj{cz:List Inst}(h:Jc cz=true):Bj (.reg cz) cf fu env m md=bnd (yK cz cf [] env m md) al4:=by simp only[Bj,h];rfl
def zL{cz:List Inst}(h:Jc cz=false):Bj (.reg cz) cf fu env m md=bnd (yJ (.reg cz) cf fu none env m []) (Pm md):=by simp only[Bj,h];rfl
def Sk:Bj .skip cf fu env m md=bnd (yJ .skip cf fu none env m []) (Pm md):=rfl
@[simp] theorem al5(b:bM):agS cf fu b ⟨⟨.normal,env,m,[],none⟩,md⟩=Bj b cf fu env m md:=id rfl
@[simp] theorem asX(o:Out):Pm md o=some [⟨o,md⟩]:=id rfl
def Nj:Uf [] ⟨⟨.normal,env,m,[],none⟩,md⟩=some [(m,md)]:=rfl
end
def YW{x:OF}{c:Nat}{d:j5->T j5->T j5}{k:DC}{cf:G6}{b:Nat}{ls:cM}{env:T j5}{m:cD}{gs:List cD}{id off len a:Nat}(g:x ls env=.slice id off len a)(f:isVoid ((hd m gs).get id)=true)(e:isCells (m.get id)=true):
   Oo x c d k cf b ls env m gs=ob (dH x ls env m) λv=>k cf b (v::ls) (d v env) m gs:=by
 unfold Oo;rw[g];show bi (isVoid ((hd m gs).get id)) (bi (isCells (m.get id)) _ none) _=_;rw[f,e];rfl
def UQ(P:cH)(cr:cR)(cz:Array Oper):Option bM:=
 match nk P cr cz [] (canon (Jd cz) (masks cz.toList) cz.size)with
 |none=>none
 |some insts=>some (.dreg (Ou insts) (numbered (masks cz.toList) ((canon (Jd cz) (masks cz.toList) cz.size).zip insts) [] 0))
def YX{P:cH}{a:cR}{cz:Array Oper}{c:bM}(h:Gu P a cz=some c):UQ P a cz=some c:=by unfold Gu at h;unfold UQ;split at h;cases h;rename_i b d;rw[d];split at h;exact h;cases h
def mg(P:cH)(cr:cR):Code->Option bM
 |.skip=>some .skip
 |.region _ cz false=>match nk P cr cz [] (List.range cz.size)with
  |some l=>some (.reg l)
  |none=>none
 |.region _ cz true=>UQ P cr cz
 |.seq a b=>match mg P cr a,mg P cr b with
  |some x,some y=>some (.seq x y)
  |_,_=>none
 |.cond c a b=>match aD P cr [] c,mg P cr a,mg P cr b with
  |some z,some x,some y=>some (.cond z x y)
  |_,_,_=>none
 |.block id a=>match mg P cr a with
  |some x=>some (.block id x)
  |none=>none
 |.loop a=>match mg P cr a with
  |some x=>some (.loop x)
  |none=>none
 |.exit id=>some (.exit id)
 |.ret=>some .ret
 |.rangeFunc f ps a b=>match aD P cr [] f,mg P cr a,mg P cr b with
  |some z,some x,some y=>some (.rangeFunc z (ps.toList.map λt=>idxOf t cr 0) x y)
  |_,_,_=>none
 |_=>none
def kS{P:cH}{cr:cR}:∀(k:Code) {c:bM},aT P cr k=some c->mg P cr k=some c
 |.skip,_,h=>h
 |.region _ _ false,_,h=>h
 |.region _ _ true,_,h=>YX h
 |.seq a b,c,h=>by unfold aT at h;split at h;rename_i x y hx hy;unfold mg;rw[kS a hx,kS b hy];exact h;cases h
 |.cond z a b,c,h=>by unfold aT at h;split at h;rename_i w x y hw hx hy;unfold mg;rw[hw,kS a hx,kS b hy];exact h;cases h
 |.block _ a,c,h=>by unfold aT at h;split at h;rename_i x hx;unfold mg;rw[kS a hx];exact h;cases h
 |.loop a,c,h=>by unfold aT at h;split at h;rename_i x hx;unfold mg;rw[kS a hx];exact h;cases h
 |.rangeFunc z _ a b,c,h=>by unfold aT at h;split at h;rename_i w x y hw hx hy;unfold mg;rw[hw,kS a hx,kS b hy];exact h;cases h
 |.exit _,_,h=>h
 |.ret,_,h=>h
 |.scope _,_,h=>by cases h
 |.label _,_,h=>by cases h
 |.goto _,_,h=>by cases h
 |.refuse _,_,h=>by cases h
def aaY(P:cH)(cr:cR)(f:FuncId):Option AFn:=
 match P.funcs[f]? with
 |none=>none
 |some fn=>match fn.body with
  |none=>none
  |some c=>match mg P cr c,HZ P cr fn.results.toList with
   |some b,some r=>some ⟨fn.params.size+fn.nfree,(List.range (fn.params.size+fn.nfree)).map λt=>idxOf t cr 0,cr.length,r,b⟩
   |_,_=>none
def ae7{P:cH}{d:cR}{f:FuncId}{a:AFn}(h:ZV P d f=some a):aaY P d f=some a:=by unfold ZV at h;unfold aaY;split at h;cases h;rename_i k i;rw[i];split at h;cases h;rename_i c g;simp only[g];split at h;rename_i b r e j;rw[kS _ e,j];split at h;exact h;cases h;cases h
def cT(P:cH)(cr:cR)(pure rc:Bool)(f:FuncId):L6:=UJ pure rc ((aaY P cr f).getD ⟨0,[],0,[],.skip⟩)
def Xd{P:cH}{b:cR}{f:FuncId}{c d:Bool}(h:(ZV P b f).isSome=true):sO P f (cT P b c d f):=by
 let⟨a,e⟩:=Option.isSome_iff_exists.1 h;have:cT P b c d f=UJ c d a:=by unfold cT;rw[ae7 e];rfl
 rw[this];exact WW e c d
def FE(b c:cL):beq b.toNat c.toNat=decide (b=c):=by
 by_cases h:b=c;subst h;rw[co rfl];exact ah6 _;rw[decide_eq_false h];cases hb:beq b.toNat c.toNat with
 |false=>rfl
 |true=>exact cj (avB.1 (nA hb)) h
def ru(c b:cL)(l:List cL):Bg c (b::l)=bi (beq b.toNat c.toNat) ([]::Bg c l) (List.rec [[b]] (λh t _=>(b::h)::t) (Bg c l)):=rfl
def Pn(c:cL):∀s,∃h t,Bg c s=h::t
 |[]=>⟨_,_,rfl⟩
 |b::l=>by let⟨h,t,e⟩:=Pn c l;rw[ru,e];cases beq b.toNat c.toNat;exact⟨_,_,rfl⟩;exact⟨_,_,rfl⟩
section
variable {P:cH}{G:cD}
def ae8(n:Nat)(s:List cL)(m:cD):Bh n ⟨.str s,m⟩=some ⟨.str s,[]⟩:=rfl
def Nk(c:cL):∀s:List cL,oM c s=Lib.indexByte s c
 |[]=>rfl
 |b::l=>by show bi (beq b.toNat c.toNat) 0 (bi (qC (oM c l) (Int.negSucc 0)) (Int.negSucc 0) (oM c l+1))=_;rw[FE,Nk c l,ny];rw[show Lib.indexByte (b::l) c=if b==c then 0 else if Lib.indexByte l c == -1 then -1 else Lib.indexByte l c+1 from rfl];by_cases h:b=c;rw[co h,cg (beq_iff_eq.2 h)];rfl;rw[decide_eq_false h,aE (by simpa using h)];show bi (Lib.indexByte l c == -1) (-1) (Lib.indexByte l c+1)=_;cases Lib.indexByte l c == -1<;>rfl
def Nl(c:cL):∀s:List cL,nI c s=Lib.countByte s c
 |[]=>rfl
 |b::l=>by show bi (beq b.toNat c.toNat) (Nat.succ (nI c l)) (nI c l)=_;rw[FE,Nl c l];unfold Lib.countByte;rw[List.count_cons];by_cases h:b=c;rw[co h,cg (by simpa using h)];rfl;rw[decide_eq_false h,aE (by simpa using h)];rfl
def YZ{f:FuncId}(a:∀(s:ByteArray)(c:cL)(w:cG),Calls P f #[.string s,.string ⟨#[c]⟩] w λe w'=>e=.returned (.int .i64 (Lib.indexByte s.data.toList c))∧w'=w)
   (s:List cL) (c:cL):lI P G f [.str s,.str [c]] [] ⟨.int .i64 (oM c s),[]⟩:=
 vN rfl (λ_=>trivial) (λ_ _=>by simp[u7]) λb w _=>by refine asg (a ⟨s.toArray⟩ c w) ?_;rintro e w' ⟨rfl,rfl⟩;exact⟨by simp[u7,Nk],Below.refl _ _⟩
def Za{f:FuncId}(a:∀(s:ByteArray)(c:cL)(w:cG),Calls P f #[.string s,.string ⟨#[c]⟩] w λe w'=>e=.returned (.int .i64 (Lib.countByte s.data.toList c))∧w'=w)
   (s:List cL) (c:cL):lI P G f [.str s,.str [c]] [] ⟨.int .i64 (.ofNat (nI c s)),[]⟩:=
 vN rfl (λ_=>trivial) (λ_ _=>by simp[u7]) λb w _=>by refine asg (a ⟨s.toArray⟩ c w) ?_;rintro e w' ⟨rfl,rfl⟩;exact⟨by simp[u7,Nl],Below.refl _ _⟩
def Kg(sep:List cL):∀ws,iP sep ws=Lib.join ws sep
 |[]=>rfl
 |[x]=>(Lib.join_one x sep).symm
 |x::y::r=>by have ih:=Kg sep (y::r);have e:iP sep (x::y::r)=dK x (dK sep (iP sep (y::r))):=rfl;rw[e,ih,V9,V9,Lib.join_cons,Lib.join_cons];simp[Lib.joinTail]
def GZ:∀{l:List cM} {ws:List (List cL)},wQ l=some ws->l=ws.map λw=>[j5.str w]
 |[],ws,h=>by have h:some ([]:List (List cL))=some ws:=h;cases h;rfl
 |r::l,ws,h=>by
  match r,h with
  |[.str s],h=>have h:ob (wQ l) (λt=>some (s::t))=some ws:=h;let⟨t,h1,h2⟩:=D7 h;cases h2;rw[GZ h1];rfl
def UR{α:Type}(n:Nat):∀(l:List α) {r:List α},takeN n l=some r->r=l.take n∧n<=l.length:=by
 intro l r h;by_cases a:n<=l.length;rw[iL n l a]at h;cases h;exact⟨rfl,a⟩;exfalso;revert l r;induction n with
 |zero=>intro l r _ a;exact a (ahe _)
 |succ n ih=>
  intro l r h a;cases l with
  |nil=>cases h
  |cons x l=>have h:ob (takeN n l) (λt=>some (x::t))=some r:=h;let⟨t,b,_⟩:=D7 h;exact ih l b (by simp at a;omega)
def aaZ{f:FuncId}(hG:T.Ok G.t G.nx)
   (X:∀(a:Option Addr) (c:Nat) (d:ByteArray) (w:cG),Calls P f #[.slice a 0 c,.string d] w λe w'=>e=.returned (.string ⟨#[]⟩)∧w'=w)
   (Y:∀(bk o c:Nat) (x d:ByteArray) (w:cG),w.cell? ⟨bk,o,none⟩=some (.string x)->Calls P f #[.slice (some ⟨bk,o,none⟩) 1 c,.string d] w λe w'=>e=.returned (.string x)∧w'=w)
   (Z:∀(bk o c:Nat) (xs:List ByteArray) (d:ByteArray) (w:cG),(∀(j:Nat) x,xs[j]?=some x->w.cell? ⟨bk,o+j,none⟩=some (.string x))->bk<w.heap.size->2<=xs.length->xs.length<=140737488355328->xs.length<=c->
    (Lib.join (xs.map (·.data.toList)) d.data.toList).length<=140737488355328->Calls P f #[.slice (some ⟨bk,o,none⟩) xs.length c,.string d] w λe w'=>e=.returned (.string ⟨(Lib.join (xs.map (·.data.toList)) d.data.toList).toArray⟩)∧Below w.heap.size w w')
   {v:j5} {off n:Nat} (hv:(∃c,v=.slice G.nx off n c∧n<=c)∨∃es,v=.sliceU G.nx off n es) {cF l:List cM} {ws:List (List cL)} {d:List cL} (hn:n<1000000)
   (U:takeN n (iA off cF)=some l) (hw:wQ l=some ws) (A:(iP d ws).length<1000000):lI P G f [v,.str d] [.cells 1 cF] ⟨.str (iP d ws),[]⟩:=by
 intro i w O C;rw[fC]at U;let⟨E,a0⟩:=UR n _ U;have F:=GZ hw;have h:ws.length=n:=by have:=ci List.length F;rw[E,ajv,ahP]at this;omega
 have S:(Q7 G [.cells 1 cF]).get G.nx=some (.cells 1 (len' cF) (T.ofList cF)):=by show(G.new (fB (.cells 1 cF))).get G.nx=_;rw[cD.Q5 (m:=G) hG];exact cg rfl
 have q:=O.spot G.nx _ S rfl;let⟨c,e,fz,Q,h1,_,hr⟩:=O.blk G.nx _ S;have g:∀j (x:List cL),ws[j]?=some x->w.cell? ⟨(i G.nx).b,(i G.nx).base+off+j,none⟩=some (.string ⟨x.toArray⟩):=λj x J=>by
  have hj:j<n:=by rw[← h];exact(gB.1 J).1
  have B:cF[off+j]?=some [j5.str x]:=by
   have H:l[j]?=some [j5.str x]:=by rw[F,abP,J];rfl
   rw[E,ahO,cg hj,akv]at H;exact H
  let⟨a1,W,q2,q3,q4⟩:=hr (off+j) (by rw[K7];exact(gB.1 B).1);rw[T.bV,B]at W;cases W;have:=q4 0 Zs;rw[ahk,adh]at this;have I:c[(i G.nx).base+off+j]?=some (.string ⟨x.toArray⟩):=by rw[aie,this];simp[u7]
  simp[World.cell?,Q,I]
 have D:(i G.nx).b<w.heap.size:=(vo.1 Q).1;have k:∀(x:ByteArray) (w':cG),x=⟨(iP d ws).toArray⟩->Below w.heap.size w w'->∃ι' r,Step P G i (Q7 G [.cells 1 cF]) w ι' r.m w'∧r.v.lt (r.m.nm ι')∧Ending.returned (.string x)=.returned (u7 ι' r.v)∧
   Bh (layAll [.cells 1 cF] G).nx r=some ⟨.str (iP d ws),[]⟩:=λx w' J K=>
  ⟨i,⟨.str (iP d ws),Q7 G [.cells 1 cF]⟩,Cq O K,trivial,by rw[J];simp[u7],rfl⟩
 have L:∃cap,n<=cap∧u7 i v=.slice (some ⟨(i G.nx).b,(i G.nx).base+off,none⟩) n cap:=by rcases hv with⟨cap,rfl,p⟩|⟨es,rfl⟩;exact⟨cap,p,by simp[u7,Q0.Dm q]⟩;have N:j5.lt ((Q7 G [.cells 1 cF]).nm i) (.sliceU G.nx off n es):=C.1;let⟨_,H,I⟩:=N;refine⟨((i G.nx).cap-off) / es,?_,by simp[u7,Q0.Dm q]⟩;have I:off+n*es<=(i G.nx).cap:=I;exact(atc H).2 Zs
 let⟨cap,p,M⟩:=L;have s:(A9 i [v,.str d]).toArray=#[.slice (some ⟨(i G.nx).b,(i G.nx).base+off,none⟩) n cap,.string ⟨d.toArray⟩]:=by simp[A9,M,u7]
 rw[s];refine callsIn_wide.2 ?_;match ws,h,g,A,k with
 |[],h,_,_,k=>obtain rfl:n=0:=h.symm;refine asg (X _ cap ⟨d.toArray⟩ w) ?_;rintro e w' ⟨rfl,rfl⟩;exact k _ _ rfl (Below.refl _ _)
 |[x],h,g,_,k=>obtain rfl:n=1:=h.symm;refine asg (Y _ _ cap ⟨x.toArray⟩ ⟨d.toArray⟩ w (g 0 x rfl)) ?_;rintro e w' ⟨rfl,rfl⟩;exact k _ _ rfl (Below.refl _ _)
 |x::y::t,h,g,A,k=>
  have R:((x::y::t).map λz:List cL=>(⟨z.toArray⟩:ByteArray)).map (λb:ByteArray=>b.data.toList)=x::y::t:=by rw[axH];exact List.map_id'' (λ_=>rfl) _
  have:=Z (i G.nx).b ((i G.nx).base+off) cap ((x::y::t).map λz:List cL=>(⟨z.toArray⟩:ByteArray)) ⟨d.toArray⟩ w (λj z V=>by
   rw[abP]at V;obtain⟨u,hu,rfl⟩:=akj.1 V;exact g j u hu) D ZZ (by rw[ahP,h];omega) (by rw[ahP,h];exact p) (by
    rw[R];show(Lib.join (x::y::t) d).length<=_;rw[← Kg];omega)
  rw[R,ahP,h]at this;refine asg this ?_;rintro e w' ⟨rfl,K⟩;refine k _ _ ?_ K;rw[Kg]
end
def al6(cz:Array Oper)(done:List (Option Nat))(i:Nat):cR:=
 match cz[i]? with
 |none=>[]
 |some o=>o.op.operands.toList.filterMap fun
  |.tmp t=>match lC t done 0 with
   |none=>some t
   |some _=>none
  |_=>none
def ab0(cz:Array Oper):cR->List (Option Nat)->cR
 |[],_=>[]
 |i::l,done=>al6 cz done i++ab0 cz l (((cz[i]?).bind (·.dst))::done)
def al7:Operand->cR
 |.tmp t=>[t]
 |_=>[]
def Eo:Code->cR
 |.region _ cz false=>ab0 cz (List.range cz.size) []
 |.region _ cz true=>ab0 cz (canon (Jd cz) (masks cz.toList) cz.size) []
 |.seq a b=>Eo a++Eo b
 |.cond c a b=>al7 c++(Eo a++Eo b)
 |.block _ b=>Eo b
 |.loop b=>Eo b
 |.rangeFunc f _ a b=>al7 f++(Eo a++Eo b)
 |_=>[]
def al8(x:Nat):cR->Bool
 |[]=>false
 |y::l=>bif beq x y then true else al8 x l
def ahM:cR->cR->cR
 |[],acc=>acc.reverse
 |x::l,acc=>bif al8 x acc then ahM l acc else ahM l (x::acc)
def ahN:List ResultVar->cR
 |[]=>[]
 |.tmp t::l=>t::ahN l
 |.cell t _::l=>t::ahN l
def mh(P:cH)(f:FuncId):cR:=match P.funcs[f]? with
 |none=>[]
 |some fn=>match fn.body with
  |none=>[]
  |some c=>ahM (Eo c++ahN fn.results.toList) []
def nLp:bM->Nat
 |.seq a b=>nLp a+nLp b
 |.cond _ a b=>nLp a+nLp b
 |.block _ a=>nLp a
 |.loop a=>nLp a+1
 |_=>0
def trN(nm:List SC):bM->Nat->SC
 |.seq a b,n=>dX (trN nm a (n+nLp b)) (trN nm b n)
 |.cond c a b,n=>wm (J6 c) (trN nm a (n+nLp b)) (trN nm b n)
 |.block id a,n=>qF id (trN nm a n)
 |.loop a,n=>yI (nm.getD (n+nLp a) qx)
 |c,_=>yJ c
def UU(k:Nat):bM->Nat->Option (bM×Nat)
 |.seq a b,n=>match UU k b n with
  |some x=>some x
  |none=>UU k a (n+nLp b)
 |.cond _ a b,n=>match UU k b n with
  |some x=>some x
  |none=>UU k a (n+nLp b)
 |.block _ a,n=>UU k a n
 |.loop a,n=>if k=n+nLp a then some (a,n)else UU k a n
 |_,_=>none
def fQ(P:cH)(pu rc:Bool)(f:FuncId)(nm:List SC):L6:=match aaY P (mh P f) f with
 |some a=>⟨pu,a.args,a.nslots,a.results,trN nm a.body 0,bif rc then some a.body else none⟩
 |none=>⟨pu,[],0,[],qx,none⟩
def lQ(P:cH)(f:FuncId)(k:Nat)(nm:List SC):SC:=match aaY P (mh P f) f with
 |some a=>match UU k a.body 0 with
  |some (b,n)=>trN nm b n
  |none=>qx
 |none=>qx
def al9(n:Nat)(h:n<2^8):(⟨⟨⟨n,h⟩⟩⟩:cL)=OfNat.ofNat n:=by show _=UInt8.ofNat n;apply avB.1;show n=(UInt8.ofNat n).toNat;rw[UInt8.toNat_ofNat'];exact(aju h).symm
structure J5{α:Type}(a:α) where
 c:α
 h:a=c:=by conv=>{lhs;reduce;try simp only[↓al9,-Int.reduceOfNat,-Int.reduceNegSucc]}
structure Qf(P:cH)(p r:Bool)(f:FuncId) where
 c:L6
 h:cT P (mh P f) p r f=c:=by conv=>{lhs;reduce}
 ok:(ZV P (mh P f) f).isSome=true:=by kernel_rfl
def Qf.is{P:cH}{p r:Bool}{f:FuncId}(q:Qf P p r f):sO P f q.c:=q.h▸Xd q.ok
end
end Go.AM
