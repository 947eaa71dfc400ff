/- A part of an evaluator for the model, proved sound: what it answers holds of the model; it speaks of every program, no condition. -/
import Derived.Test.YtfnlnpllpfhhnaaGreatDoorPA4
import Derived.Deep.Slices
import Derived.Below
import Derived.Lib.SplitLaws
import Derived.Lib.Join
import Derived.Lib.SmallJoins
import Derived.KernelRfl
set_option linter.all false
namespace Go.AM
open Go
noncomputable section
section
variable {α β γ:Type}
@[simp] theorem ayN (a:α)(f:α->Option (List β)):bnd (some [a]) f=f a:=_root_.id rfl
@[simp] theorem aAw (f:α->Option (List β)):bnd (none:Option (List α)) f=none:=_root_.id rfl
@[simp] theorem an8 (a:α)(f:α->Option β):Rw (some [a]) f=f a:=_root_.id rfl
@[simp] theorem agK (a:α)(z:β)(f:α->β):(Option.rec z (λv=>f v) (some a):β)=f a:=_root_.id rfl
@[simp] theorem agL (z:β)(f:α->β):(Option.rec z (λv=>f v) none:β)=z:=_root_.id rfl
end
section
variable (k:IntKind)(b:Bool)(n:Int)(s:List UInt8)(i o l c:Nat)(v:d9)(as bs:List d9)(fn:Fn){β:Type}
@[simp] theorem am3 (p:d9->β)(q:β):fD (.bool b) p q=q:=_root_.id rfl
@[simp] theorem an9 (p:d9->β)(q:β):fD (.int k n) p q=q:=_root_.id rfl
@[simp] theorem ana (p:d9->β)(q:β):fD (.str s) p q=q:=_root_.id rfl
@[simp] theorem agM (p:d9->β)(q:β):fD .nilPtr p q=q:=_root_.id rfl
@[simp] theorem anb (p:d9->β)(q:β):fD (.ptr i o) p q=q:=_root_.id rfl
@[simp] theorem adn (p:d9->β)(q:β):fD .nilSlice p q=q:=_root_.id rfl
@[simp] theorem ajI (p:d9->β)(q:β):fD (.slice i o l c) p q=q:=_root_.id rfl
@[simp] theorem agN (p:d9->β)(q:β):fD (.sliceU i o l c) p q=q:=_root_.id rfl
@[simp] theorem agO (p:d9->β)(q:β):fD .nilMap p q=q:=_root_.id rfl
@[simp] theorem anc (p:d9->β)(q:β):fD (.map i) p q=q:=_root_.id rfl
@[simp] theorem aer (p:d9->β)(q:β):fD .nilFunc p q=q:=_root_.id rfl
@[simp] theorem am4 (p:d9->β)(q:β):fD (.func fn as bs) p q=q:=_root_.id rfl
@[simp] theorem ado (p:d9->β)(q:β):fD .nilIface p q=q:=_root_.id rfl
@[simp] theorem ajJ (p:d9->β)(q:β):fD (.iface i v) p q=q:=_root_.id rfl
@[simp] theorem ane (p:d9->β)(q:β):fD (.agg as) p q=q:=_root_.id rfl
@[simp] theorem ajK (p:d9->β)(q:β):fD (.tuple as) p q=q:=_root_.id rfl
@[simp] theorem ajL (p:d9->β)(q:β):fD .undef p q=q:=_root_.id rfl
@[simp] theorem anf (p:d9->β)(q:β):fD (.dD v) p q=p v:=_root_.id rfl
end
@[simp] theorem aAx (x:d9)(ls:List d9)(env:T d9):K5 (x::ls) env=x:=_root_.id rfl
@[simp] theorem aAy (a x:d9)(ls:List d9)(env:T d9):qC (a::x::ls) env=x:=_root_.id rfl
@[simp] theorem aAz (a b x:d9)(ls:List d9)(env:T d9):iy (a::b::x::ls) env=x:=_root_.id rfl
@[simp] theorem aAA (a b c x:d9)(ls:List d9)(env:T d9):qJ (a::b::c::x::ls) env=x:=_root_.id rfl
@[simp] theorem ayO (k:Nat)(ls:List d9)(env:T d9):Y9 k ls env=ls[k]?.getD .undef:=Yi k ls
@[simp] theorem ayP (v:d9)(ls:List d9)(env:T d9):au v ls env=v:=_root_.id rfl
@[simp] theorem ang (g:T d9->d9)(ls:List d9)(env:T d9):G6 g ls env=g env:=_root_.id rfl
@[simp] theorem aER (l r:T d9)(x:d9):gH (.nd l x r)=x:=_root_.id rfl
@[simp] theorem aES (g:T d9->d9)(l r:T d9)(x:d9):gL g (.nd l x r)=g l:=_root_.id rfl
@[simp] theorem aET (g:T d9->d9)(l r:T d9)(x:d9):gR g (.nd l x r)=g r:=_root_.id rfl
@[simp] theorem aEU (v:d9)(l r:T d9)(x:d9):sH v (.nd l x r)=.nd l v r:=_root_.id rfl
@[simp] theorem aEV (s:d9->T d9->T d9)(v:d9)(l r:T d9)(x:d9):sL s v (.nd l x r)=.nd (s v l) x r:=_root_.id rfl
@[simp] theorem aEW (s:d9->T d9->T d9)(v:d9)(l r:T d9)(x:d9):sR s v (.nd l x r)=.nd l x (s v r):=_root_.id rfl
@[simp] theorem aAB (v:d9)(t:T d9):eU v t=t:=_root_.id rfl
@[simp] theorem ayQ (ls:List d9)(env:T d9):evs [] ls env=[]:=_root_.id rfl
@[simp] theorem anh (x:OF)(l:List OF)(ls:List d9)(env:T d9):evs (x::l) ls env=x ls env::evs l ls env:=_root_.id rfl
section
variable {β:Type}(ls:List d9)(env:T d9)(m:Mem)
@[simp] theorem ayR (x:OF):dG x ls env=some (x ls env):=_root_.id rfl
@[simp] theorem ani (c a b:OF):aB c a b ls env=pI (c ls env) λt=>some (bi t (a ls env) (b ls env)):=_root_.id rfl
@[simp] theorem anj (b:Bool)(k:Bool->Option β):pI (.bool b) k=k b:=_root_.id rfl
@[simp] theorem ayS (k:IntKind)(n:Int)(f:IntKind->Int->Option β):vT (.int k n) f=f k n:=_root_.id rfl
@[simp] theorem Ng (s:List UInt8)(f:List UInt8->Option β):wm (.str s) f=f s:=_root_.id rfl
@[simp] theorem ayT (i o:Nat)(f:Nat->Nat->Option β):mo (.ptr i o) f=f i o:=_root_.id rfl
@[simp] theorem ayU (l:List d9)(f:List d9->Option β):Ao (.agg l) f=f l:=_root_.id rfl
@[simp] theorem ayV (l:List d9)(f:List d9->Option β):Ow (.tuple l) f=f l:=_root_.id rfl
@[simp] theorem ayW (i:Nat)(z:Option β)(f:Nat->Option β):wo (.map i) z f=f i:=_root_.id rfl
@[simp] theorem ank (z:Option β)(f:Nat->Option β):wo .nilMap z f=z:=_root_.id rfl
@[simp] theorem ayX (z:Option β)(f g:Nat->Nat->Nat->Nat->Option β):ze .nilSlice z f g=z:=_root_.id rfl
@[simp] theorem zy (a b c d:Nat)(z:Option β)(f g:Nat->Nat->Nat->Nat->Option β):ze (.slice a b c d) z f g=f a b c d:=_root_.id rfl
@[simp] theorem uS (a b c d:Nat)(z:Option β)(f g:Nat->Nat->Nat->Nat->Option β):ze (.sliceU a b c d) z f g=g a b c d:=_root_.id rfl
@[simp] theorem ayY (fn:Fn)(a b:List d9)(f:Fn->List d9->List d9->Option β):Ox (.func fn a b) f=f fn a b:=_root_.id rfl
@[simp] theorem jN (n:Nat)(k:Nat->Option β):Oy (n:Int) k=k n:=_root_.id rfl
@[simp] theorem ajM (n:Nat)(k:Nat->Option β):Oy (.ofNat n) k=k n:=_root_.id rfl
@[simp] theorem am5 (k:Nat->Option β):Oy 0 k=k 0:=_root_.id rfl
@[simp] theorem anl (k:Nat->Option β):Oy 1 k=k 1:=_root_.id rfl
@[simp] theorem nu (k:IntKind)(n:Int)(f:Nat->Option β):iR (.int k n) f=Oy n f:=_root_.id rfl
@[simp] theorem IQ (k:IntKind):kEq k k=true:=by cases k<;>rfl
@[simp] theorem aAC (f:IB)(g:SB)(x y:OF):BL f g x y ls env=BK f g (x ls env) (y ls env):=_root_.id rfl
@[simp] theorem anm (f:IB)(g:SB)(k:IntKind)(a b:Int):BK f g (.int k a) (.int k b)=f k a b:=by show bi (kEq k k) (f k a b) none=_;rw [IQ];rfl
@[simp] theorem ano (f:IB)(g:SB)(a b:List UInt8):BK f g (.str a) (.str b)=g a b:=_root_.id rfl
@[simp] theorem ayZ (x y:OF):GU x y ls env=adV (x ls env) (y ls env):=_root_.id rfl
@[simp] theorem az0 (x y:OF):GV x y ls env=Rt (x ls env) (y ls env):=_root_.id rfl
@[simp] theorem az1 (a b:Int):Gd .i64 a b=some (.int .i64 (sP (a+b))):=_root_.id rfl
@[simp] theorem az2 (a b:Int):GJ .i64 a b=some (.int .i64 (sP (a-b))):=_root_.id rfl
@[simp] theorem az3 (a b:Int):GK .i64 a b=some (.int .i64 (sP (a*b))):=_root_.id rfl
@[simp] theorem aAD (k:IntKind)(a b:Int):Dz k a b=some (.bool (decide (a=b))):=by show some (d9.bool (qK a b))=_;rw [lu,show (a==b)=decide (a=b) from rfl]
@[simp] theorem aAE (k:IntKind)(a b:Int):XR k a b=some (.bool (!decide (a=b))):=by show some (d9.bool (!qK a b))=_;rw [lu,show (a==b)=decide (a=b) from rfl]
@[simp] theorem aAF (k:IntKind)(a b:Int):Xy k a b=some (.bool (decide (a<b))):=by rw [← iL];rfl
@[simp] theorem aAG (k:IntKind)(a b:Int):Xz k a b=some (.bool (decide (a<=b))):=by show some (d9.bool (!nJ b a))=_;rw [iL,show (!decide (b<a))=decide (a<=b) from by rw [adE];simp]
@[simp] theorem aAH (k:IntKind)(a b:Int):XT k a b=some (.bool (decide (b<a))):=by rw [← iL];rfl
@[simp] theorem aAI (k:IntKind)(a b:Int):XA k a b=some (.bool (decide (b<=a))):=by show some (d9.bool (!nJ a b))=_;rw [iL,show (!decide (a<b))=decide (b<=a) from by rw [adE];simp]
theorem dM {n:Int}(h:-9223372036854775808<=n)(h':n<9223372036854775808):sP n=n:=by
 cases n with
 | ofNat m=>show bi (Nat.blt m 9223372036854775808) _ _=_;rw [show Nat.blt m 9223372036854775808=true from O6.mpr (by simp at h';omega)];rfl
 | negSucc m=>show bi (Nat.blt m 9223372036854775808) _ _=_;rw [show Nat.blt m 9223372036854775808=true from O6.mpr (by omega)];rfl
@[simp] theorem aAJ (f:GR)(x y:OF):EZ f x y ls env=ob (f (x ls env) (y ls env)) λb=>some (.bool b):=_root_.id rfl
@[simp] theorem aAK (f:GR)(x y:OF):Uz f x y ls env=ob (f (x ls env) (y ls env)) λb=>some (.bool (!b)):=_root_.id rfl
@[simp] theorem az4 (x:OF):Ea x ls env=pI (x ls env) λb=>some (.bool (!b)):=_root_.id rfl
@[simp] theorem az5 (x:OF):GX x ls env=vT (x ls env) λk n=>some (.int k (iY k (0-n))):=_root_.id rfl
@[simp] theorem anp (k:IntKind)(x:OF):wB k x ls env=vT (x ls env) λ_ n=>some (.int k (iY k n)):=_root_.id rfl
@[simp] theorem am6 (t:TypeId)(x:OF):pK t x ls env=some (.iface t (x ls env)):=_root_.id rfl
@[simp] theorem anq (fn:Fn)(a b:List OF):zT fn a b ls env=some (.func fn (evs a ls env) (evs b ls env)):=_root_.id rfl
@[simp] theorem aes (x:OF):gB x ls env=DZ (x ls env):=_root_.id rfl
@[simp] theorem ajN (i o:Nat):DZ (.ptr i o)=some (.ptr i o):=_root_.id rfl
@[simp] theorem agP (f:FuncId)(a b:List d9):DZ (.func (.func f) a b)=some (.func (.func f) a b):=_root_.id rfl
@[simp] theorem am7 (o:Nat)(x:OF):G8 o x ls env=mo (x ls env) λid off=>some (.ptr id (off+o)):=_root_.id rfl
@[simp] theorem anr (off:Nat)(x:OF):wC off x ls env=Ao (x ls env) λcs=>cs[off]?:=by show Ao (x ls env) (λcs=>uw off cs)=_;simp
@[simp] theorem ant (off k:Nat)(x:OF):wD off k x ls env=Ao (x ls env) λcs=>ob (takeN k (cs.drop off)) λl=>some (.agg l):=by show Ao (x ls env) (λcs=>ob (takeN k (gZ off cs)) λl=>some (d9.agg l))=_;simp
@[simp] theorem ajO {α:Type}(l:List α):takeN 0 l=some []:=_root_.id rfl
@[simp] theorem ajP {α:Type}(n:Nat)(x:α)(l:List α):takeN (n+1) (x::l)=ob (takeN n l) λr=>some (x::r):=_root_.id rfl
@[simp] theorem az6 (x:OF)(i:Nat):pExt x i ls env=Ow (x ls env) λl=>l[i]?:=by show Ow (x ls env) (λl=>uw i l)=_;simp
@[simp] theorem az7 (x:OF):Gf x ls env=ze (x ls env) (some (.int .i64 0)) (λ_ _ n _=>some (.int .i64 n)) (λ_ _ n _=>some (.int .i64 n)):=_root_.id rfl
@[simp] theorem anu (x:OF):wE x ls env=wm (x ls env) λs=>some (.int .i64 s.length):=by show wm (x ls env) (λs=>some (d9.int .i64 (.ofNat (len' s))))=_;simp
@[simp] theorem az8 (x:OF):GY x ls env=ze (x ls env) (some (.int .i64 0)) (λ_ _ _ c=>some (.int .i64 c)) (λ_ _ _ _=>none):=_root_.id rfl
theorem V6 (len i:Nat)(k:Nat->Option β)(h:i<len):idx len (.int .i64 i) k=k i:=by show bi (Nat.blt i len) (k i) none=_;rw [show Nat.blt i len=true from O6.mpr h];rfl
@[simp] theorem am8 (es:Nat)(x i:OF):nU es x i ls env=ze (x ls env) none (λid off len _=>idx len (i ls env) λk=>some (.ptr id (off+k*es)))
  (λid off len _=>idx len (i ls env) λk=>some (.ptr id (off+k*es))):=rfl
@[simp] theorem aeu (es n:Nat)(x i:OF):gD es n x i ls env=mo (x ls env) λid off=>idx n (i ls env) λk=>some (.ptr id (off+k*es)):=_root_.id rfl
@[simp] theorem az9 (cs:List d9):lay [] ls env cs=some cs:=_root_.id rfl
theorem YQ (p:Nat×Nat×OF)(l:List (Nat×Nat×OF))(cs:List d9):lay (p::l) ls env cs =
  bi (Nat.beq (len' (p.2.2 ls env).cells) p.2.1) (bi (Nat.ble (Nat.add p.1 p.2.1) (len' cs)) (lay l ls env (nI p.1 (p.2.2 ls env).cells cs)) none) none:=rfl
@[simp] theorem am9 (z:List d9)(ps:List (Nat×Nat×OF)):mD z ps ls env=ob (lay ps ls env z) λl=>some (.agg l):=_root_.id rfl
def ld1 (b:Option U7)(off:Nat):Option d9:=aO b λrs n rows=>cell1 rs n rows off
def YR (b:Option U7)(off k:Nat):Option d9:=aO b λrs n rows=>ob (nR rs n rows off k) λl=>some (.agg l)
def Sv (b:Option U7)(off:Nat)(vs:List d9):Option U7:=aO b λrs n rows=>ob (aj rs n rows off vs) λrows'=>some (.cells rs n rows')
@[simp] theorem ama (a:OF):L9 a ls env m=mo (a ls env) λid off=>ld1 (m.get id) off:=_root_.id rfl
@[simp] theorem amb (k:Nat)(a:OF):U3 k a ls env m=mo (a ls env) λid off=>YR (m.get id) off k:=_root_.id rfl
@[simp] theorem cu (rs n:Nat)(rows:T (List d9))(k:Nat->Nat->T (List d9)->Option β):aO (some (.cells rs n rows)) k=k rs n rows:=_root_.id rfl
@[simp] theorem aAL (es:List (d9×d9))(k:List (d9×d9)->Option β):VP (some (.map es)) k=k es:=_root_.id rfl
theorem gU {rs n:Nat}{rows:T (List d9)}{i j:Nat}{row:List d9}(a:j<rs)(hi:i<n)(h:rows.get i=some row):cell1 rs n rows (i*rs+j)=row[j]?:=by
 unfold cell1;have b:Nat.div (i*rs+j) rs=i:=by show (i*rs+j) / rs=i;rw [adS,Nat.mul_add_div (by omega),aq4 a];rfl
 have c:Nat.mod (i*rs+j) rs=j:=by show (i*rs+j)%rs=j;rw [adS,aCI,al0 a]
 rw [b,c,h,show Nat.blt i n=true from O6.mpr hi];exact kZ _ _
theorem uT {rs n:Nat}{rows:T (List d9)}{i j k:Nat}{row:List d9}(c:j<rs)(hi:i<n)(h:rows.get i=some row)(f:row.length=rs)(g:j+k<=rs):
  nR rs n rows (i*rs+j) k=some ((row.drop j).take k):=by
 unfold nR;have d:Nat.div (i*rs+j) rs=i:=by show (i*rs+j) / rs=i;rw [adS,Nat.mul_add_div (by omega),aq4 c];rfl
 have e:Nat.mod (i*rs+j) rs=j:=by show (i*rs+j)%rs=j;rw [adS,aCI,al0 c]
 rw [d,e,h,show Nat.blt i n=true from O6.mpr hi];simp only [Z6,I7,gJ];cases b:Nat.beq j 0 with
 | false=>simp only [aJ];exact jX _ _ (by simp;omega)
 | true=>
  have b:=rW b;subst b;simp only [Z6];cases a:Nat.beq k rs with
  | true=>have a:=rW a;subst a;simp [f.symm]
  | false=>simp only [aJ,adx];exact jX _ _ (by omega)
end
theorem div_lt {a b:Nat}(h:a<b):Nat.div a b=0:=aq4 h
theorem mod_lt {a b:Nat}(h:a<b):Nat.mod a b=a:=al0 h
@[simp] theorem jO (cs:List d9)(off:Nat):ld1 (some (l6 cs)) off=cs[off]?:=by
 show cell1 (len' cs) 1 (.nd .e cs .e) off=_;rw [K4];unfold cell1;by_cases h:off<cs.length;rw [div_lt h,mod_lt h];exact kZ _ _;rw [show cs[off]?=none from by simp;omega];by_cases h0:cs.length=0;rw [h0,show Nat.div off 0=0 from Nat.div_zero off,show Nat.mod off 0=off from Nat.mod_zero off];show uw off cs=none;rw [kZ];simp;omega;have:1<=Nat.div off cs.length:=(Nat.one_le_div_iff (by omega)).2 (by omega);rw [show Nat.blt (Nat.div off cs.length) 1=false from by
  cases hb:Nat.blt (Nat.div off cs.length) 1 with
  | false=>rfl
  | true=>have:=O6.mp hb;omega]
theorem xE {cs:List d9}{off k:Nat}(h:off+k<=cs.length)(h0:off<cs.length):YR (some (l6 cs)) off k=some (.agg ((cs.drop off).take k)):=by show ob (nR (len' cs) 1 (.nd .e cs .e) off k) (λl=>some (d9.agg l))=_;have:=uT (rs:=cs.length) (n:=1) (rows:=.nd .e cs .e) (i:=0) (j:=off) (k:=k) (row:=cs) h0 (by omega) rfl rfl h;rw [adD,S9] at this;rw [K4,this];rfl
theorem gV {cs vs:List d9}{off:Nat}(h:off+vs.length<=cs.length)(h0:off<cs.length):Sv (some (l6 cs)) off vs=some (l6 (cs.take off++(vs++cs.drop (off+vs.length)))):=by
 show ob (aj (len' cs) 1 (.nd .e cs .e) off vs) (λa=>some (U7.cells (len' cs) 1 a))=_;have b:Nat.ble (Nat.add off vs.length) cs.length=true:=wu h;have c:aj cs.length 1 (.nd .e cs .e) off vs=some (T.nd .e (nI off vs cs) .e):=by unfold aj;rw [div_lt h0,mod_lt h0,K4];show bi (Nat.ble (Nat.add off vs.length) cs.length) (some (T.nd .e (nI off vs cs) .e)) none=_;rw [b];rfl
 rw [K4,c,nL off vs cs (by omega)];show some (U7.cells cs.length 1 _)=some (U7.cells (len' _) 1 _);rw [K4];congr 2;simp;omega
def Mem.Ok (m:Mem):Prop:=T.Ok m.t m.nx
theorem Mem.Ok.new {m:Mem}(h:m.Ok)(b:U7):(m.new b).Ok:=T.Ok.push h b
theorem Mem.Ok.set {m:Mem}(h:m.Ok){i:Nat}(hi:i<m.nx)(b:U7):(m.set i b).Ok:=T.Ok.put h i b hi
theorem dN {m:Mem}(h:m.Ok)(b:U7){i j:Nat}(a:j<m.nx)(hi:i=j):(m.set j b).get i=some b:=by rw [Mem.U6 h a,if_pos hi]
theorem iF {m:Mem}(h:m.Ok)(b:U7){i j:Nat}(a:j<m.nx)(hi:i≠j):(m.set j b).get i=m.get i:=by rw [Mem.U6 h a,if_neg hi]
theorem aK {β:Type}{m:Mem}{id off:Nat}{vs:List d9}{k:Mem->Option β}(c:m.lim<=id)(a:I6 vs=true):storeAt m id off vs k=ob (Sv (m.get id) off vs) λb=>k (m.set id b):=by
 unfold storeAt;rw [show Nat.blt id m.lim=false from by
  cases hb:Nat.blt id m.lim with
  | false=>rfl
  | true=>have:=O6.mp hb;omega,a]
 simp only [aJ,Z6];unfold Sv;match m.get id with
 | some (.cells rs n rows)=>show ob (aj rs n rows off vs) _=ob (ob (aj rs n rows off vs) _) _;cases aj rs n rows off vs<;>rfl
 | some .void | some .dead | some (.map _) | some (.iter ..) | some (.tail _) | some (.loop ..) | some .deferred | none=>rfl
theorem WJ (b:Nat)(a x:OF)(cf:H8)(ls:List d9)(env:T d9)(m:Mem):gF b a x cf ls env m=mo (a ls env) λid off=>
  bi (Nat.beq (x ls env).cells.length b) (storeAt m id off (x ls env).cells λm'=>some [⟨.undef,m'⟩]) none:=by
 show mo (a ls env) (λid off=>bi (Nat.beq (len' (x ls env).cells) b) (storeAt m id off (x ls env).cells λm'=>one .undef m') none)=_;simp only [K4];rfl
@[simp] theorem ajQ:I6 []=true:=_root_.id rfl
@[simp] theorem agQ (v:d9)(l:List d9):I6 (v::l)=bi (D6 v) (I6 l) false:=_root_.id rfl
section
variable (cf:H8)(ls:List d9)(env:T d9)(m:Mem)(d:d9->T d9->T d9)(k:RC)
@[simp] theorem anv:aG cf ls env m=some [⟨env,m,none,[]⟩]:=_root_.id rfl
@[simp] theorem aAM (f:PF):uz f d k cf ls env m=ob (f ls env) λv=>k cf (v::ls) (d v env) m:=_root_.id rfl
@[simp] theorem aza (f:PF):J2 f k cf ls env m=ob (f ls env) λv=>k cf (v::ls) env m:=_root_.id rfl
@[simp] theorem aAN (f:RF):rcR f d k cf ls env m=ob (f ls env m) λv=>k cf (v::ls) (d v env) m:=_root_.id rfl
@[simp] theorem azb (f:RF):aH f k cf ls env m=ob (f ls env m) λv=>k cf (v::ls) env m:=_root_.id rfl
@[simp] theorem amc:JR m none=m:=_root_.id rfl
@[simp] theorem amd (b:U7):JR m (some b)=m.new b:=_root_.id rfl
@[simp] theorem aAO (f:LF):JL f d k cf ls env m=ob (f ls env m.nx) λr=>k cf (r.1::ls) (d r.1 env) (JR m r.2):=_root_.id rfl
@[simp] theorem azc (f:LF):Gg f k cf ls env m=ob (f ls env m.nx) λr=>k cf (r.1::ls) env (JR m r.2):=_root_.id rfl
@[simp] theorem aAP (f:EF):rcE f d k cf ls env m=bnd (f cf ls env m) λr=>fD r.v (λx=>some [⟨env,r.m,some x,[]⟩]) (k cf (r.v::ls) (d r.v env) r.m):=_root_.id rfl
@[simp] theorem azd (f:EF):lT f k cf ls env m=bnd (f cf ls env m) λr=>fD r.v (λx=>some [⟨env,r.m,some x,[]⟩]) (k cf (r.v::ls) env r.m):=_root_.id rfl
@[simp] theorem ame (z:List d9)(i:Nat):nV z ls env i=some (.ptr i 0,some (l6 z)):=_root_.id rfl
@[simp] theorem aze (x:OF)(i:Nat):pO x ls env i=some (.ptr i 0,some (l6 (x ls env).cells)):=_root_.id rfl
@[simp] theorem amf (i:Nat):rQ ls env i=some (.map i,some (.map [])):=_root_.id rfl
@[simp] theorem amg (l:List d9):(d9.agg l).cells=l:=_root_.id rfl
@[simp] theorem amh (k:IntKind)(n:Int):(d9.int k n).cells=[.int k n]:=_root_.id rfl
@[simp] theorem ajR (b:Bool):(d9.bool b).cells=[.bool b]:=_root_.id rfl
@[simp] theorem ami (s:List UInt8):(d9.str s).cells=[.str s]:=_root_.id rfl
@[simp] theorem amj (i o:Nat):(d9.ptr i o).cells=[.ptr i o]:=_root_.id rfl
@[simp] theorem amk (i:Nat):(d9.map i).cells=[.map i]:=_root_.id rfl
@[simp] theorem cells_func (f:Fn)(a b:List d9):(d9.func f a b).cells=[.func f a b]:=_root_.id rfl
@[simp] theorem agR (a b c d:Nat):(d9.slice a b c d).cells=[.slice a b c d]:=_root_.id rfl
@[simp] theorem aev (a b c d:Nat):(d9.sliceU a b c d).cells=[.sliceU a b c d]:=_root_.id rfl
@[simp] theorem YS:d9.nilSlice.cells=[.nilSlice]:=_root_.id rfl
@[simp] theorem anw (f:FuncId)(as:List OF):iJ f as cf ls env m=cf (.func f) (evs as ls env) m:=_root_.id rfl
@[simp] theorem aml (f:OF)(as:List OF):pU f as cf ls env m=XZ cf m (evs as ls env) (f ls env):=_root_.id rfl
@[simp] theorem ajS (as:List d9)(f:FuncId)(a b:List d9):XZ cf m as (.func (.func f) a b)=cf (.func f) (a++(as++b)) m:=by show cf (.func f) (bU a (bU as b)) m=_;simp
end
@[simp] theorem anx (b:Bool):qD true (.bool b)=b:=by cases b<;>rfl
@[simp] theorem amm (b:Bool):qD false (.bool b)=!b:=by cases b<;>rfl
section
variable (w:Bool)(x:OF)(ls:List d9)(env:T d9)(m:Mem)
@[simp] theorem aEX (f:PF):gP x w f ls env=bi (qD w (x ls env)) (f ls env) (some .undef):=_root_.id rfl
@[simp] theorem aAQ (f:RF):jg x w f ls env m=bi (qD w (x ls env)) (f ls env m) (some .undef):=_root_.id rfl
@[simp] theorem aAR (f:LF)(i:Nat):gLk x w f ls env i=bi (qD w (x ls env)) (f ls env i) (some (.undef,none)):=_root_.id rfl
@[simp] theorem aEY (f:EF)(cf:H8):gE x w f cf ls env m=bi (qD w (x ls env)) (f cf ls env m) (some [⟨.undef,m⟩]):=_root_.id rfl
end
@[simp] theorem T.anz {α:Type}(x:α)(t:T α)(i:Nat):T.rep x 0 t i=t:=_root_.id rfl
attribute [simp] T.Hq T.aQ T.fF
section
variable (cf:H8)(fu:Nat)(ir:Option Nat)(env:T d9)(m:Mem)(k:List Mk)
@[simp] theorem azf (x:bn):rT x env m k=some [⟨x,env,m,k,none⟩]:=_root_.id rfl
@[simp] theorem amn:jG cf fu ir env m k=some [⟨.normal,env,m,k,none⟩]:=_root_.id rfl
@[simp] theorem anA (r:RC):aI r cf fu ir env m k=bnd (r cf [] env m) (mG k):=_root_.id rfl
@[simp] theorem amo:mG k ⟨env,m,none,[]⟩=some [⟨.normal,env,m,k,none⟩]:=_root_.id rfl
@[simp] theorem amq (n:Nat)(r:DC):kW n r cf fu ir env m k=bnd (r cf m.nx [] env (reserve n m) [reserve n m]) (mG k):=_root_.id rfl
def aew (b:SC)(cf:H8)(fu:Nat)(ir:Option Nat)(o:Out):Option (List Out):=bn.rec (b cf fu ir o.env o.m o.marks) (λ_=>some [o]) (some [o]) o.x
@[simp] theorem anB (a b:SC):bE a b cf fu ir env m k=bnd (a cf fu ir env m k) (aew b cf fu ir):=_root_.id rfl
@[simp] theorem agS (b:SC)(p:Option d9):aew b cf fu ir ⟨.normal,env,m,k,p⟩=b cf fu ir env m k:=_root_.id rfl
@[simp] theorem amr (b:SC)(i:Nat)(p:Option d9):aew b cf fu ir ⟨.exit i,env,m,k,p⟩=some [⟨.exit i,env,m,k,p⟩]:=_root_.id rfl
@[simp] theorem anC (b:SC)(p:Option d9):aew b cf fu ir ⟨.ret,env,m,k,p⟩=some [⟨.ret,env,m,k,p⟩]:=_root_.id rfl
@[simp] theorem ams (c:OF)(a b:SC):mH c a b cf fu ir env m k=pI (c [] env) λt=>bi t (a cf fu ir env m k) (b cf fu ir env m k):=_root_.id rfl
def aex (id:Nat)(o:Out):Option (List Out):=bn.rec (some [o]) (λid'=>bi (Nat.beq id id') (rT .normal o.env o.m o.marks) (some [o])) (some [o]) o.x
@[simp] theorem ajT (id:Nat)(a:SC):jv id a cf fu ir env m k=bnd (a cf fu ir env m k) (aex id):=_root_.id rfl
@[simp] theorem agT (id:Nat)(p:Option d9):aex id ⟨.normal,env,m,k,p⟩=some [⟨.normal,env,m,k,p⟩]:=_root_.id rfl
@[simp] theorem anD (id:Nat)(p:Option d9):aex id ⟨.ret,env,m,k,p⟩=some [⟨.ret,env,m,k,p⟩]:=_root_.id rfl
@[simp] theorem amt (id i:Nat)(p:Option d9):aex id ⟨.exit i,env,m,k,p⟩=bi (Nat.beq id i) (some [⟨.normal,env,m,k,none⟩]) (some [⟨.exit i,env,m,k,p⟩]):=_root_.id rfl
@[simp] theorem amu (a:SC):nY a cf fu ir env m k=T9 (λenv m k=>a cf fu ir env m k) fu env m k:=_root_.id rfl
def Qd (f:T d9->Mem->List Mk->Option (List Out))(o:Out):Option (List Out):=bn.rec (f o.env o.m o.marks) (λ_=>some [o]) (some [o]) o.x
theorem o9 (a:T d9->Mem->List Mk->Option (List Out))(n:Nat):T9 a (n+1) env m k=bnd (a env m k) (Qd (T9 a n)):=rfl
@[simp] theorem aey (f:T d9->Mem->List Mk->Option (List Out))(p:Option d9):Qd f ⟨.normal,env,m,k,p⟩=f env m k:=_root_.id rfl
@[simp] theorem ajU (f:T d9->Mem->List Mk->Option (List Out))(i:Nat)(p:Option d9):Qd f ⟨.exit i,env,m,k,p⟩=some [⟨.exit i,env,m,k,p⟩]:=_root_.id rfl
@[simp] theorem amv (f:T d9->Mem->List Mk->Option (List Out))(p:Option d9):Qd f ⟨.ret,env,m,k,p⟩=some [⟨.ret,env,m,k,p⟩]:=_root_.id rfl
@[simp] theorem amw (id:Nat):pV id cf fu ir env m k=some [⟨.exit id,env,m,k,none⟩]:=_root_.id rfl
@[simp] theorem anE:lW cf fu ir env m k=some [⟨.ret,env,m,k,none⟩]:=_root_.id rfl
end
section
variable (cf:H8)(b:Nat)(ls:List d9)(env:T d9)(m:Mem)(gs:List Mem)(d:d9->T d9->T d9)(k:DC)(c:Nat)
attribute [simp] MW MX
@[simp] theorem anF:qN cf b ls env m gs=some [⟨env,m,none,[]⟩]:=_root_.id rfl
@[simp] theorem aAS (f:PF):jU f d k cf b ls env m gs=ob (f ls env) λv=>k cf b (v::ls) (d v env) m gs:=_root_.id rfl
@[simp] theorem aAT (f:RF):vV f c d k cf b ls env m gs=ob (f ls env (hd m gs)) λv=>bi (stable f ls env v c (tl gs)) (k cf b (v::ls) (d v env) m gs) none:=_root_.id rfl
@[simp] theorem aAU (f:LF):dcL f c d k cf b ls env m gs=ob (f ls env (b+c)) λr=>bi (isVoid (m.get (b+c))) (bi (qO (b+c) gs) (k cf b (r.1::ls) (d r.1 env) (VQ m (b+c) r.2) gs) none) none:=_root_.id rfl
@[simp] theorem aAV (f:EF)(a:GF):OI f a d k cf b ls env m gs=Rw (f cf ls env m) λr=>fD r.v (λx=>bi (a (.undef::ls) (d .undef env)) (some [⟨env,r.m,some x,[]⟩]) none) (k cf b (r.v::ls) (d r.v env) r.m (r.m::gs)):=_root_.id rfl
@[simp] theorem anG:zW ls env=true:=_root_.id rfl
@[simp] theorem aAW:Gt ls env=false:=_root_.id rfl
@[simp] theorem aAX (g:GF):XD g ls env=g (.undef::ls) env:=_root_.id rfl
@[simp] theorem azg (g:Mem):hd m (g::gs)=g:=_root_.id rfl
@[simp] theorem azh (g:Mem):tl (g::gs)=gs:=_root_.id rfl
@[simp] theorem amx (i:Nat)(x:U7):VQ m i (some x)=m.set i x:=_root_.id rfl
@[simp] theorem agU:isVoid (some .void)=true:=_root_.id rfl
@[simp] theorem agV (i:Nat):qO i []=true:=_root_.id rfl
@[simp] theorem aez (i:Nat)(g:Mem):qO i (g::gs)=bi (isVoid (g.get i)) (qO i gs) false:=_root_.id rfl
@[simp] theorem agW (f:RF)(v:d9):stable f ls env v 0 gs=true:=_root_.id rfl
@[simp] theorem agX (f:RF)(v:d9)(n:Nat)(g:Mem):stable f ls env v (n+1) (g::gs)=bi (Option.rec false (λu=>bM 100 u v) (f ls env g)) (stable f ls env v n gs) false:=_root_.id rfl
end
@[simp] theorem YT (env:T d9):eZ [] [] env=some env:=_root_.id rfl
@[simp] theorem XG (j:Option Nat)(a:List (Option Nat))(v:d9)(vs:List d9)(env:T d9):eZ (j::a) (v::vs) env=eZ a vs (iM j v env):=_root_.id rfl
@[simp] theorem amy (a:kX)(rs:List pF)(env:T d9)(m:Mem):leave a rs ⟨.ret,env,m,[],none⟩=ob (results rs env m) λl=>some [⟨result l,m⟩]:=_root_.id rfl
@[simp] theorem aeA (a:kX)(rs:List pF)(env:T d9)(m:Mem):leave a rs ⟨.normal,env,m,[],none⟩=ob (results rs env m) λl=>some [⟨result l,m⟩]:=_root_.id rfl
@[simp] theorem agY (env:T d9)(m:Mem):results [] env m=some []:=_root_.id rfl
@[simp] theorem results_tmp (j:Nat)(rs:List pF)(env:T d9)(m:Mem):results (.tmp j::rs) env m=ob (env.get j) λv=>ob (results rs env m) λl=>some (v::l):=_root_.id rfl
@[simp] theorem ajV:result []=.tuple []:=_root_.id rfl
@[simp] theorem ajW (v:d9):result [v]=v:=_root_.id rfl
@[simp] theorem ajX (v x:d9)(l:List d9):result (v::x::l)=.tuple (v::x::l):=_root_.id rfl
structure Ext (m m':Mem):Prop where
 ok:T.Ok m'.t m'.nx
 nx:m.nx<=m'.nx
 lim:m'.lim=m.lim
 old:∀i,i<m.nx->m'.get i=m.get i
theorem Ext.refl {m:Mem}(h:T.Ok m.t m.nx):Ext m m:=⟨h,aA _,rfl,λ_ _=>rfl⟩
theorem Ext.trans {a b c:Mem}(h:Ext a b)(k:Ext b c):Ext a c:=
 ⟨k.ok,zu h.nx k.nx,k.lim.trans h.lim,λi d=>(k.old i (nA d h.nx)).trans (h.old i d)⟩
theorem Ext.new {a m:Mem}(h:Ext a m)(b:U7):Ext a (m.new b):=
 ⟨h.ok.push b,aA0 h.nx,h.lim,λi c=>by rw [Mem.Q5 h.ok,if_neg (by have:=h.nx;omega)];exact h.old i c⟩
theorem Ext.set {a m:Mem}(h:Ext a m){i:Nat}(hi:i<m.nx)(d:a.nx<=i)(b:U7):Ext a (m.set i b):=
 ⟨h.ok.put _ _ hi,h.nx,h.lim,λj c=>by rw [Mem.U6 h.ok hi,if_neg (by omega)];exact h.old j c⟩
theorem Ext.get {a m:Mem}(h:Ext a m){i:Nat}{b:U7}(d:T.Ok a.t a.nx)(c:a.get i=some b):m.get i=some b:=
 (h.old i (Mem.N9 d c)).trans c
def Z8 (m:Mem)(v:d9)(xs:List Int):Prop:=
 (v=.nilSlice∧xs=[])∨∃p:Nat×Nat,((∃c,v=.slice p.1 p.2 xs.length c)∨∃es,v=.sliceU p.1 p.2 xs.length es)∧p.1<m.nx∧(xs=[]∨∃n rows,m.get p.1=some (.cells 1 n rows)∧p.2+xs.length<=n∧∀i (h:i<xs.length),rows.get (p.2+i)=some [.int .i64 xs[i]])
theorem Z8.ext {m b:Mem}(h:Ext m b){v:d9}{xs:List Int}(a:Z8 m v xs):Z8 b v xs:=by rcases a with a | ⟨id,h1,h2,h3⟩;exact .inl a;refine .inr ⟨id,h1,nA h2 h.nx,?_⟩;rcases h3 with h3 | ⟨n,rows,h4,h5,h6⟩;exact .inl h3;exact .inr ⟨n,rows,(h.old id.1 h2).trans h4,h5,h6⟩
theorem UQ {n i:Nat}{rows:T (List d9)}{v:d9}(h:i<n)(a:rows.get i=some [v]):ld1 (some (.cells 1 n rows)) i=some v:=by have:=gU (rs:=1) (n:=n) (rows:=rows) (i:=i) (j:=0) (by omega) h a;rw [aeN] at this;exact this
theorem dZ {i:Nat}(h:i<4611686018427387904):sP ((i:Int)+1)=((i+1:Nat):Int):=by rw [dM (by omega) (by omega)];rfl
theorem Z8.at {m:Mem}{v:d9}{xs:List Int}(h:Z8 m v xs){i:Nat}(hi:i<xs.length):
  ∃q:Nat×Nat,ze v none (λid off len _=>idx len (.int .i64 i) λk=>some (d9.ptr id (off+k))) (λid off len _=>idx len (.int .i64 i) λk=>some (d9.ptr id (off+k)))=some (.ptr q.1 q.2)∧q.1<m.nx∧ld1 (m.get q.1) q.2=some (.int .i64 xs[i]):=by
 rcases h with⟨_,rfl⟩ | ⟨id,h1,h2,h3⟩;simp at hi;rcases h3 with rfl | ⟨n,rows,h4,h5,h6⟩;simp at hi;refine⟨(id.1,id.2+i),?_,h2,by rw [h4];exact UQ (by omega) (h6 i hi)⟩;rcases h1 with⟨c,rfl⟩ | ⟨c,rfl⟩;simp only [zy];rw [V6 _ _ _ hi];simp only [uS];rw [V6 _ _ _ hi]
theorem Z8.cells {m:Mem}{v:d9}{xs:List Int}(h:Z8 m v xs):v.cells=[v]:=by rcases h with⟨rfl,rfl⟩ | ⟨id,⟨c,rfl⟩ | ⟨c,rfl⟩,_⟩<;>rfl
theorem Z8.dD {m:Mem}{v:d9}{xs:List Int}(h:Z8 m v xs){β:Type}(p:d9->β)(q:β):fD v p q=q:=by rcases h with⟨rfl,rfl⟩ | ⟨id,⟨c,rfl⟩ | ⟨c,rfl⟩,_⟩<;>rfl
theorem Z8.D6 {m:Mem}{v:d9}{xs:List Int}(h:Z8 m v xs):Go.AM.D6 v=true:=by rcases h with⟨rfl,rfl⟩ | ⟨id,⟨c,rfl⟩ | ⟨c,rfl⟩,_⟩<;>rfl
theorem Z8.len {m:Mem}{v:d9}{xs:List Int}(h:Z8 m v xs):ze v (some (d9.int .i64 0)) (λ_ _ n _=>some (.int .i64 n)) (λ_ _ n _=>some (.int .i64 n))=some (.int .i64 xs.length):=by rcases h with⟨rfl,rfl⟩ | ⟨id,⟨c,rfl⟩ | ⟨c,rfl⟩,_⟩<;>rfl
theorem Z8.lenOf {m:Mem}{v:d9}{xs:List Int}(h:Z8 m v xs):Go.AM.lenOf v=some xs.length:=by rcases h with⟨rfl,rfl⟩ | ⟨id,⟨c,rfl⟩ | ⟨c,rfl⟩,_⟩<;>rfl
def ints (xs:List Int):List d9:=xs.map (d9.int .i64)
theorem Kq {n off:Nat}{rows:T (List d9)}{xs:List Int}(h:∀i (h:i<xs.length),rows.get (off+i)=some [.int .i64 xs[i]])(c:off+xs.length<=n):
  ∀(j i:Nat),i+j=xs.length->J8 1 n rows j (off+i)=some (ints (xs.drop i)):=by
 intro j;induction j with
 | zero=>intro i b;rw [O5 (by omega)];rfl
 | succ j ih=>
  intro i b;have a:i<xs.length:=by omega
  show ob (cell1 1 n rows (off+i)) (λv=>ob (J8 1 n rows j (off+i+1)) λl=>some (v::l))=_;have e:cell1 1 n rows (off+i)=some (.int .i64 xs[i]):=by
   have:=gU (rs:=1) (n:=n) (rows:=rows) (i:=off+i) (j:=0) (by omega) (by omega) (h i a)
   rwa [aeN] at this
  rw [e,show off+i+1=off+(i+1) from by omega,ih (i+1) (by omega),Q6 a];rfl
theorem Z8.read {m:Mem}{v:d9}{xs:List Int}(h:Z8 m v xs):bS m 1 xs.length v=some (ints xs):=by
 rcases h with⟨rfl,rfl⟩ | ⟨id,h1,h2,h3⟩;rfl;rcases h3 with rfl | ⟨n,a,h4,h5,h6⟩;rcases h1 with⟨c,rfl⟩ | ⟨c,rfl⟩<;>rfl
 have b:V4 m id.1 id.2 (Nat.mul xs.length 1)=some (ints xs):=by
  have e:Nat.mul xs.length 1=xs.length:=aeN _;rw [e];cases hx:xs.length with
  | zero=>rw [acS.1 hx];rfl
  | succ k=>show aO (m.get id.1) (λf d a=>J8 f d a (k+1) id.2)=_;have:=Kq h6 h5 (k+1) 0 (by omega);rw [h4,cu];exact this
 rcases h1 with⟨c,rfl⟩ | ⟨c,rfl⟩<;>exact b
theorem FI:∀(xs:List Int),rowsOf 1 xs.length (ints xs)=some (xs.map λx=>[d9.int .i64 x])
 | []=>rfl
 | x::xs=>by show ob (takeN 1 (ints (x::xs))) (λr=>ob (rowsOf 1 xs.length (gZ 1 (ints (x::xs)))) λrest=>some (r::rest))=_;have e:gZ 1 (ints (x::xs))=ints xs:=rfl;rw [e,FI xs];rfl
theorem Sw {m:Mem}(a:T.Ok m.t m.nx)(xs:List Int):∃m',grown m 1 xs.length (ints xs)=some [⟨.sliceU m.nx 0 xs.length 1,m'⟩]∧Ext m m'∧Z8 m' (.sliceU m.nx 0 xs.length 1) xs:=by refine⟨m.new (.cells 1 xs.length (T.ofList (xs.map λx=>[d9.int .i64 x]))),?_,(Ext.refl a).new _,.inr ⟨(m.nx,0),.inr ⟨1,rfl⟩,by simp,.inr ⟨xs.length,_,by rw [Mem.Q5 a,if_pos rfl],by simp,λi b=>by rw [S9,T.aV];simp [b]⟩⟩⟩;show ob (rowsOf 1 xs.length (ints xs)) _=_;rw [FI];rfl
namespace T
variable {α:Type}
theorem aeB {t:T α}{n:Nat}(h:Ok t n):∀i (x y:α),i<=n->(t.put i x).put i y=t.put i y:=by
 induction h with
 | e=>intro i x y b;obtain rfl:i=0:=by omega
      rfl
 | @nd l r z n hl hr ihl ihr=>
  intro i x y b;cases i with
  | zero=>rfl
  | succ i=>rw [aQ,aQ];split;rename_i a;rw [aQ,if_pos a,ihl _ _ _ (by omega)];rename_i a;rw [aQ,if_neg a,ihr _ _ _ (by omega)]
theorem put_comm {t:T α}{n:Nat}(h:Ok t n):∀i (x y:α),i<n->(t.put n x).put i y=(t.put i y).put n x:=by
 induction h with
 | e=>intro i x y a;omega
 | @nd l r z n hl hr ihl ihr=>
  intro i x y a;cases i with
  | zero=>rw [aQ,OT,aQ];split<;>rfl
  | succ i=>
   rw [aQ (i:=n),aQ (i:=i)];by_cases hn:n%2=0;rw [if_pos hn,aQ];by_cases h0:i%2=0;rw [if_pos h0,if_pos h0,aQ,if_pos hn];have e:(n+1) / 2=n / 2:=by omega
   rw [e] at hl ihl;have:=ihl (i / 2) x y (by omega);rw [this];rw [if_neg h0,if_neg h0,aQ,if_pos hn];rw [if_neg hn,aQ];by_cases h0:i%2=0;rw [if_pos h0,if_pos h0,aQ,if_neg hn];rw [if_neg h0,if_neg h0,aQ,if_neg hn];have:=ihr (i / 2) x y (by omega);rw [this]
end T
theorem CJ {α:Type}{p:List α->Prop}(h0:p [])(hs:∀l b,p l->p (l ++ [b])):∀l,p l:=by
 intro l;have:p l.reverse.reverse:=by
  generalize l.reverse=r;induction r with
  | nil=>exact h0
  | cons x r ih=>rw [List.reverse_cons];exact hs _ _ ih
 rwa [List.reverse_reverse] at this
def ext (m:Mem)(l:List U7):Mem:=l.foldl Mem.new m
theorem w9 (m:Mem)(b:U7):m.new b=ext m [b]:=rfl
theorem x9 (m:Mem)(l a:List U7):ext (ext m l) a=ext m (l++a):=by simp [ext]
theorem ext_nil (m:Mem):ext m []=m:=rfl
theorem nP (m:Mem)(l:List U7)(b:U7):ext m (l ++ [b])=(ext m l).new b:=by simp [ext]
@[simp] theorem Qe (m:Mem)(l:List U7):(ext m l).nx=m.nx+l.length:=by
 induction l using CJ with
 | h0=>rfl
 | hs l b ih=>rw [nP,Mem.OW,ih];simp;omega
@[simp] theorem zA (m:Mem)(l:List U7):(ext m l).lim=m.lim:=by
 induction l using CJ with
 | h0=>rfl
 | hs l b ih=>rw [nP,Mem.ae3,ih]
theorem I9 {m:Mem}(a:m.Ok)(l:List U7):(ext m l).Ok:=by
 induction l using CJ with
 | h0=>exact a
 | hs l b ih=>rw [nP];exact ih.new b
theorem ext_get {m:Mem}(a:m.Ok)(l:List U7)(i:Nat):(ext m l).get i=if i<m.nx then m.get i else l[i-m.nx]?:=by
 induction l using CJ with
 | h0=>
  rw [ext_nil];split;rfl;cases h:m.get i with
  | none=>simp
  | some b=>have:=Mem.N9 a h;omega
 | hs l b ih=>rw [nP,Mem.Q5 (I9 a l),ih,Qe];by_cases h1:i<m.nx;rw [if_neg (by omega),if_pos h1,if_pos h1];rw [if_neg h1,if_neg h1];by_cases h2:i=m.nx+l.length;rw [if_pos h2,adq (by omega),show i-m.nx-l.length=0 from by omega];rfl;rw [if_neg h2];by_cases h3:i-m.nx<l.length;rw [ade h3];rw [akp (by omega),akp (by simp;omega)]
theorem l5 {m:Mem}(a:m.Ok)(l:List U7)(c:Nat):(ext m l).get (m.nx+c)=l[c]?:=by rw [ext_get a,if_neg (by omega),show m.nx+c-m.nx=c from by omega]
theorem j6 {m:Mem}(a:m.Ok)(l:List U7):(ext m l).get m.nx=l[0]?:=l5 a l 0
theorem P5 {m:Mem}(a:m.Ok)(l:List U7){i:Nat}(h:i<m.nx):(ext m l).get i=m.get i:=by rw [ext_get a,if_pos h]
theorem C8 {m:Mem}(a:m.Ok)(l:List U7):Ext m (ext m l):=⟨I9 a l,by simp,by simp,λi b=>P5 a l b⟩
theorem Mem.UR {m:Mem}(c:m.Ok)(a b:U7):(m.new a).set m.nx b=m.new b:=by show (⟨(m.t.put m.nx a).put m.nx b,_,_⟩:Mem)=_;rw [T.aeB c _ _ _ (aA _)];rfl
theorem Mem.Qg {m:Mem}(c:m.Ok)(a b:U7){i:Nat}(h:i<m.nx):(m.new a).set i b=(m.set i b).new a:=by show (⟨(m.t.put m.nx a).put i b,_,_⟩:Mem)=⟨(m.t.put i b).put m.nx a,_,_⟩;rw [T.put_comm c _ _ _ h];rfl
theorem r9 {m:Mem}(d:m.Ok)(l:List U7)(c:Nat)(b:U7)(h:c<l.length):(ext m l).set (m.nx+c) b=ext m (l.set c b):=by
 induction l using CJ with
 | h0=>simp at h
 | hs l a ih=>
  rw [nP];by_cases h1:c<l.length;rw [Mem.Qg (I9 d l) _ _ (by rw [Qe];omega),ih h1,List.set_append_left _ _ h1,nP];have:c=l.length:=by simp at h;omega
  subst this;have e:m.nx+l.length=(ext m l).nx:=by simp
  rw [e,Mem.UR (I9 d l),amW _ _ (aA _)];simp [nP]
theorem l9 {m:Mem}(a:m.Ok)(l:List U7)(b:U7)(h:0<l.length):(ext m l).set m.nx b=ext m (l.set 0 b):=r9 a l 0 b h
end
end Go.AM
namespace Go.AM
open Go
theorem U8 {α:Type}(a b:Nat)(x y:α):bi (Nat.beq a b) x y=if a=b then x else y:=wU a b x y
theorem Lc {α:Type}(a b:Nat)(x y:α):bi (Nat.ble a b) x y=if a<=b then x else y:=by
 cases h:Nat.ble a b with
 | true=>rw [if_pos (M8 h)];rfl
 | false=>rw [if_neg (λc=>by rw [wu c] at h;cases h)];rfl
theorem WK {α:Type}(a b:Nat)(x y:α):bi (Nat.blt a b) x y=if a<b then x else y:=Lc (a+1) b x y
theorem IU (ls:List d9)(env:T d9)(p:Nat×Nat×OF)(l:List (Nat×Nat×OF))(cs:List d9):lay (p::l) ls env cs =
  if (p.2.2 ls env).cells.length=p.2.1 then if p.1+p.2.1<=cs.length then lay l ls env (cs.take p.1++((p.2.2 ls env).cells++cs.drop (p.1+(p.2.2 ls env).cells.length))) else none else none:=by
 rw [YQ,U8,K4,K4];split;rename_i h;show bi (Nat.ble (p.1+p.2.1) cs.length) _ _=_;rw [Lc];split;rename_i a;rw [nL _ _ _ (by omega)];rfl;rfl
theorem tT (b:Nat)(a x:OF)(cf:H8)(ls:List d9)(env:T d9)(m:Mem):gF b a x cf ls env m=mo (a ls env) λid off=>
  if (x ls env).cells.length=b then storeAt m id off (x ls env).cells λm'=>some [⟨.undef,m'⟩] else none:=by
 rw [WJ];simp only [U8]
theorem Eu {β:Type}{m:Mem}(a:m.Ok)(d:m.lim<=m.nx)(l:List U7)(c off:Nat)(vs:List d9)(k:Mem->Option β):
  storeAt (ext m l) (m.nx+c) off vs k=bi (I6 vs) (ob (Sv l[c]? off vs) λb=>k (ext m (l.set c b))) none:=by
 cases h1:I6 vs with
 | false=>unfold storeAt;rw [h1];cases Nat.blt (m.nx+c) (ext m l).lim<;>rfl
 | true=>rw [aK (by rw [zA];omega) h1,l5 a,Z6];by_cases hc:c<l.length;congr 1;funext b;rw [r9 a _ _ _ hc];rw [akp (by omega)];rfl
theorem xG {β:Type}{m:Mem}(c:m.Ok)(a:m.lim<=m.nx)(l:List U7)(off:Nat)(vs:List d9)(k:Mem->Option β):
  storeAt (ext m l) m.nx off vs k=bi (I6 vs) (ob (Sv l[0]? off vs) λb=>k (ext m (l.set 0 b))) none:=Eu c a l 0 off vs k
@[simp] theorem aeC (j:Nat)(k:Nat)(rs:List pF)(env:T d9)(m:Mem):results (.cell j (some k)::rs) env m=ob (ob (env.get j) λp=>mo p λid off=>YR (m.get id) off k) λv=>ob (results rs env m) λl=>some (v::l):=id rfl
@[simp] theorem adp (j:Nat)(rs:List pF)(env:T d9)(m:Mem):results (.cell j none::rs) env m=ob (ob (env.get j) λp=>mo p λid off=>ld1 (m.get id) off) λv=>ob (results rs env m) λl=>some (v::l):=id rfl
end Go.AM
namespace Go.AM
open Go
section
variable {α β:Type}
@[congr] theorem anH {b b':Bool}{x a y y':α}(hb:b=b')(c:b'=true->x=a)(d:b'=false->y=y'):bi b x y=bi b' a y':=by
 subst hb;cases b with
 | true=>exact c rfl
 | false=>exact d rfl
@[simp] theorem azi (b:Bool)(x:α):bi b x x=x:=by cases b<;>rfl
@[simp] theorem aAY (b:Bool)(x y:α):bi (!b) x y=bi b y x:=by cases b<;>rfl
theorem sG (b:Bool)(x y:α)(k:α->Option β):ob (bi b (some x) (some y)) k=k (bi b x y):=by cases b<;>rfl
theorem zB (b:Bool)(x y:α)(k:α->Option (List β)):bnd (bi b (some [x]) (some [y])) k=k (bi b x y):=by cases b<;>rfl
theorem tX (b:Bool)(x y:α)(k:α->Option β):Rw (bi b (some [x]) (some [y])) k=k (bi b x y):=by cases b<;>rfl
end
@[simp] theorem agZ (b c:Bool):bi b (d9.bool c) (d9.bool false)=.bool (b&&c):=by cases b<;>rfl
@[simp] theorem ajY (b c:Bool):bi b (d9.bool true) (d9.bool c)=.bool (b||c):=by cases b<;>rfl
theorem YU (b:Bool)(v w:d9)(m:Mem):bi b (⟨v,m⟩:VM) ⟨w,m⟩=⟨bi b v w,m⟩:=by cases b<;>rfl
@[simp] theorem azj {β:Type}(b:Bool)(v w:d9)(p:d9->β)(q:β):fD (bi b v w) p q=bi b (fD v p q) (fD w p q):=by cases b<;>rfl
end Go.AM
namespace Go.AM
open Go
section
variable {α:Type}(a b c:Bool)(x y z:α)
@[simp] theorem azk:bi b (bi b x y) z=bi b x z:=by cases b<;>rfl
@[simp] theorem anI:bi b x (bi b y z)=bi b x z:=by cases b<;>rfl
@[simp] theorem azl:bi (b&&c) (bi b x y) z=bi (b&&c) x z:=by cases b<;>cases c<;>rfl
@[simp] theorem azm:bi (b&&c) (bi c x y) z=bi (b&&c) x z:=by cases b<;>cases c<;>rfl
@[simp] theorem aAZ:bi (b||c) x (bi b y z)=bi (b||c) x z:=by cases b<;>cases c<;>rfl
@[simp] theorem aB0:bi (b||c) x (bi c y z)=bi (b||c) x z:=by cases b<;>cases c<;>rfl
end
end Go.AM
namespace Go.AM
open Go
@[simp] theorem aEZ (b:Bool)(f a:T d9)(m d:Mem)(p e:Option d9)(k c:List Mk):bi b (⟨f,m,p,k⟩:EM) ⟨a,d,e,c⟩=⟨bi b f a,bi b m d,bi b p e,bi b k c⟩:=by cases b<;>rfl
@[simp] theorem aF0 (b:Bool)(l a r c:T d9)(x d:d9):bi b (T.nd l x r) (T.nd a d c)=.nd (bi b l a) (bi b x d) (bi b r c):=by cases b<;>rfl
@[simp] theorem aB1 (b:Bool)(v w:d9)(m a:Mem):bi b (⟨v,m⟩:VM) ⟨w,a⟩=⟨bi b v w,bi b m a⟩:=by cases b<;>rfl
end Go.AM
namespace Go.AM
open Go
@[simp] theorem amz (w:Bool):qD w .undef=false:=id rfl
theorem CK {i:Nat}(h0:0<i)(h:i<4611686018427387904):sP ((i:Int)-1)=((i-1:Nat):Int):=by rw [dM (by omega) (by omega)];omega
def bg (p:Nat->Bool):Nat->Nat->Bool
 | 0,_=>true
 | j+1,i=>p i&&bg p j (i+1)
def okB (xs:List Int)(i:Nat):Bool:=(decide (1<=xs.getD i 0)&&decide (xs.getD i 0<=1099511627776))&&(decide (i=0)||decide (xs.getD (i-1) 0<xs.getD i 0))
theorem uU {xs:List Int}{i:Nat}(h:i<xs.length):xs.getD i 0=xs[i]:=by simp [List.getD,h]
end Go.AM
namespace Go.AM
open Go
@[simp] theorem amA (c:List PK)(a b:List d9):dw c (.agg a) (.agg b)=dX c a b:=id rfl
@[simp] theorem amB:dX [] [] []=some true:=id rfl
@[simp] theorem amC (k:PK)(c:List PK)(x y:d9)(a b:List d9):dX (k::c) (x::a) (y::b)=ob (OC k x y) λr=>bi r (dX c a b) (some false):=id rfl
@[simp] theorem aB2:OC .i=fU:=id rfl
@[simp] theorem anJ (k:IntKind)(a b:Int):fU (.int k a) (.int k b)=some (decide (a=b)):=by show bi (kEq k k) (some (qK a b)) none=_;rw [IQ,lu,show (a==b)=decide (a=b) from rfl];rfl
@[simp] theorem ah0 (b c:Bool):bi b (some c) (some false)=some (b&&c):=by cases b<;>rfl
theorem P8 (n:Nat)(k:IntKind)(i:Int):bM (n+1) (.int k i) (.int k i)=true:=by show bi (kEq k k) (qK i i) false=true;rw [IQ,lu];simp
theorem gW {m:Mem}{v:d9}{xs:List Int}(h:Z8 m v xs)(n:Nat):bM (n+1) v v=true:=by rcases h with⟨rfl,rfl⟩ | ⟨id,⟨c,rfl⟩ | ⟨c,rfl⟩,_⟩;rfl;show bi (Nat.beq id.1 id.1) (bi (Nat.beq id.2 id.2) (bi (Nat.beq _ _) (Nat.beq _ _) false) false) false=true;simp [U8];show bi (Nat.beq id.1 id.1) (bi (Nat.beq id.2 id.2) (bi (Nat.beq _ _) (Nat.beq _ _) false) false) false=true;simp [U8]
theorem Ld (f:d9->d9->Bool)(x y:d9)(a b:List d9):uD f (x::a) (y::b)=bi (f x y) (uD f a b) false:=rfl
theorem Qh (f:d9->d9->Bool):uD f [] []=true:=rfl
theorem Le (n:Nat)(a b:List d9):bM (n+1) (.agg a) (.agg b)=uD (bM n) a b:=rfl
end Go.AM
namespace Go.AM
open Go
section
variable {α β:Type}
@[congr] theorem aF1 {o a:Option α}{k:α->Option β}(h:o=a):ob o k=ob a k:=by rw [h]
@[congr] theorem aB3 {o a:Option (List α)}{k:α->Option (List β)}(h:o=a):bnd o k=bnd a k:=by rw [h]
@[congr] theorem azn {o a:Option (List α)}{k:α->Option β}(h:o=a):Rw o k=Rw a k:=by rw [h]
@[congr] theorem azo {v a:d9}{p:d9->β}{q:β}(h:v=a):fD v p q=fD a p q:=by rw [h]
@[congr] theorem azp {v a:d9}{k:Nat->Nat->Option β}(h:v=a):mo v k=mo a k:=by rw [h]
@[congr] theorem azq {v a:d9}{k:IntKind->Int->Option β}(h:v=a):vT v k=vT a k:=by rw [h]
@[congr] theorem anK {v a:d9}{k:Bool->Option β}(h:v=a):pI v k=pI a k:=by rw [h]
@[congr] theorem azr {v a:d9}{k:List d9->Option β}(h:v=a):Ao v k=Ao a k:=by rw [h]
@[congr] theorem azs {v a:d9}{k:List d9->Option β}(h:v=a):Ow v k=Ow a k:=by rw [h]
@[congr] theorem azt {v a:d9}{k:List UInt8->Option β}(h:v=a):wm v k=wm a k:=by rw [h]
@[congr] theorem azu {v a:d9}{k:Nat->Option β}(h:v=a):iR v k=iR a k:=by rw [h]
end
end Go.AM
namespace Go.AM
open Go
section
variable {α β:Type}
@[simp high] theorem amD (a:α)(k:α->Option β):ob (some a) k=k a:=id rfl
@[simp high] theorem amE (k:α->Option β):ob none k=none:=id rfl
@[simp high] theorem amF (x y:α):bi true x y=x:=id rfl
@[simp high] theorem ajZ (x y:α):bi false x y=y:=id rfl
@[simp high] theorem azv (i:Nat):(T.e:T α).get i=none:=id rfl
@[simp high] theorem ak0 (l:T α)(x:α)(r:T α):(T.nd l x r).get 0=some x:=id rfl
@[simp high] theorem azw (i:Nat)(x:α):(T.e:T α).put i x=.nd .e x .e:=id rfl
@[simp high] theorem ak1 (l:T α)(y:α)(r:T α)(x:α):(T.nd l y r).put 0 x=.nd l x r:=id rfl
@[simp high] theorem ak2 (x:α)(n:Nat)(t:T α)(i:Nat):T.rep x (n+1) t i=T.rep x n (t.put i x) (i+1):=id rfl
@[simp high] theorem YV (m:Mem):reserve 0 m=m:=id rfl
@[simp high] theorem YW (n:Nat)(m:Mem):reserve (n+1) m=reserve n (m.new .void):=id rfl
@[simp high] theorem ak3 (m:Mem)(b:U7):(m.new b).nx=m.nx+1:=id rfl
@[simp high] theorem amG (m:Mem)(b:U7):(m.new b).lim=m.lim:=id rfl
@[simp high] theorem ak4 (m:Mem)(i:Nat)(b:U7):(m.set i b).nx=m.nx:=id rfl
@[simp high] theorem amH (m:Mem)(i:Nat)(b:U7):(m.set i b).lim=m.lim:=id rfl
end
end Go.AM
namespace Go.AM
open Go
@[simp] theorem ah1:bM 100 .undef .undef=true:=id rfl
end Go.AM
namespace Go.AM
open Go
theorem CP (k:IntKind)(a b:Nat)(h:b≠0):Ap k (a:Int) (b:Int)=some (.int k ((a%b:Nat):Int)):=by
 cases b with
 | zero=>exact absurd rfl h
 | succ b=>rfl
end Go.AM
namespace Go.AM
open Go
theorem Qi {β:Type}{es:Nat}{a:List d9}(h:a.length=es)(k:U7->Option β):kT es 1 a k=k (l6 a):=by show ob (ob (takeN es a) λr=>ob (rowsOf es 0 (gZ es a)) λb=>some (r::b)) (λc=>k (.cells es 1 (T.ofList c)))=_;rw [jX _ _ (by omega),I7,gJ,O5 (by omega),adt (by omega)];show k (.cells es 1 (.nd .e a .e))=k (.cells (len' a) 1 (.nd .e a .e));rw [K4,h]
theorem dx (es:Nat)(zero:List d9)(ps:List (Nat×Nat×OF))(ls:List d9)(env:T d9)(nid:Nat)(e:zero.length=es):U4 es 1 zero ps ls env nid=ob (lay ps ls env zero) λcells=>if cells.length=es then some (.slice nid 0 1 1,some (l6 cells)) else none:=by
 show ob (lay ps ls env (bU zero [])) (λcells=>kT es 1 cells λb=>some (d9.slice nid 0 1 1,some b))=_;rw [U9,adB];congr 1;funext cells;split;rename_i h;rw [Qi h];rename_i h;show ob (ob (takeN es cells) λr=>ob (rowsOf es 0 (gZ es cells)) λa=>some (r::a)) _=none;cases ht:takeN es cells with
 | none=>rfl
 | some r=>
  obtain⟨c,d⟩:=mJ _ _ _ ht;rw [I7,gJ];cases hd:cells.drop es with
  | nil=>have:=List.drop_eq_nil_iff.1 hd;omega
  | cons x xs=>rfl
@[simp] theorem anL {β:Type}(len:Nat)(k:Nat->Option β):idx len (.int .i64 0) k=if 0<len then k 0 else none:=by show bi (Nat.blt 0 len) (k 0) none=_;rw [WK]
noncomputable def msB (b:Option U7)(f:GR)(n:Nat)(k x:d9):Option U7:=
 VP b λes=>ob (dY f n k es) λr=>Option.rec (some (.map (es ++ [(k,x)]))) (λp=>ob es[p.1]? λe=>bi (Nat.beq e.1.cells.length n) (some (.map (kU es k x p.1))) none) r
theorem Ba (f:GR)(n:Nat)(mp k x:OF)(cf:H8)(ls:List d9)(env:T d9)(m:Mem):kV f n mp k x cf ls env m=wo (mp ls env) none λid=>bi (Nat.blt id m.lim) none (ob (msB (m.get id) f n (k ls env) (x ls env)) λb=>some [⟨.undef,m.set id b⟩]):=by
 show wo (mp ls env) none (λid=>bi (Nat.blt id m.lim) none _)=_;congr 1;funext id;congr 1;unfold msB;match m.get id with
 | some (.map es)=>
  show ob (dY f n (k ls env) es) _=ob (ob (dY f n (k ls env) es) _) _;cases dY f n (k ls env) es with
  | none=>rfl
  | some r=>
   cases r with
   | none=>simp [U9];rfl
   | some p=>
    simp only [I7];show ob (uw p.1 es) _=ob (ob es[p.1]? _) _;rw [kZ];cases es[p.1]? with
    | none=>rfl
    | some e=>simp only [I7,K4];cases Nat.beq e.1.cells.length n<;>rfl
 | some .void | some .dead | some (.cells ..) | some (.iter ..) | some (.tail _) | some (.loop ..) | some .deferred | none=>rfl
@[congr] theorem azx {β:Type}{v a:d9}{z:Option β}{k:Nat->Option β}(h:v=a):wo v z k=wo a z k:=by rw [h]
theorem UU {m:Mem}(a:m.lim<=m.nx)(l:List U7)(c:Nat):Nat.blt (m.nx+c) (ext m l).lim=false:=by
 rw [zA];cases h:Nat.blt (m.nx+c) m.lim with
 | false=>rfl
 | true=>have:=O6.mp h;omega
theorem CQ {m:Mem}(a:m.lim<=m.nx)(l:List U7):Nat.blt m.nx (ext m l).lim=false:=UU a l 0
theorem Nh (es:List (d9×d9))(f:GR)(n:Nat)(k x:d9):msB (some (.map es)) f n k x=ob (dY f n k es) λr=>Option.rec (some (.map (es ++ [(k,x)]))) (λp=>ob es[p.1]? λe=>bi (Nat.beq e.1.cells.length n) (some (.map (kU es k x p.1))) none) r:=rfl
theorem uW (f:GR)(n:Nat)(k:d9):dY f n k []=bi (Nat.beq (len' k.cells) n) (ob (f k k) λ_=>some none) none:=rfl
theorem Q7 (f:GR)(n:Nat)(k:d9)(e:d9×d9)(es:List (d9×d9)):dY f n k (e::es)=bi (Nat.beq (len' k.cells) n) (findKey f k (e::es) 0) none:=rfl
@[simp] theorem ak5 (f:OF)(b:List (Option Nat))(a d:ay)(cf:H8)(e:Nat)(env:T d9)(m:Mem)(k:List Mk):mX f b a d cf e none env m k=Rx cf (f [] env) b a d env (m.new .deferred) (.c m.nx::k):=id rfl
@[simp] theorem amI (cf:H8)(f:FuncId)(a b:List d9)(params:List (Option Nat))(assign body:ay)(env:T d9)(m:Mem)(k:List Mk):Rx cf (.func (.func f) a b) params assign body env m k =
  bnd (cf (.func f) (a++(.func (.yield m.nx) [] []::b)) (m.new (.loop .ready none env params assign body))) λr=>fD r.v (λ_=>none) <|
   qP (r.m.get m.nx) λst pend _ _ _ _=>match st with
    | .busy=>none
    | _=>match pend with
     | none=>rT .normal env (r.m.set m.nx .dead) k
     | some x=>rT x env (r.m.set m.nx .dead) k:=by
 show bnd (cf (.func f) (bU a (bU [.func (.yield m.nx) [] []] b)) _) _=_;rw [U9,U9];rfl
@[simp] theorem anM {β:Type}(c:LoopState)(a:Option bn)(env:T d9)(ps:List (Option Nat))(b bd:ay)(f:LoopState->Option bn->T d9->List (Option Nat)->ay->ay->Option β):qP (some (.loop c a env ps b bd)) f=f c a env ps b bd:=id rfl
theorem aeD (a:kX)(rs:List pF)(env:T d9)(m:Mem)(id:Nat)(h:m.get id=some .deferred):leave a rs ⟨.ret,env,m,[.c id],none⟩=ob (results rs env (m.set id .dead)) λl=>some [⟨result l,m.set id .dead⟩]:=by show Yc (m.get id) _=_;rw [h];rfl
end Go.AM
namespace Go.AM
open Go
theorem Bb {β:Type}{m:Mem}{id:Nat}(a:m.lim<=id)(off:Nat)(vs:List d9)(k:Mem->Option β):storeAt m id off vs k=bi (I6 vs) (ob (Sv (m.get id) off vs) λb=>k (m.set id b)) none:=by
 cases h1:I6 vs with
 | true=>rw [aK a h1];rfl
 | false=>unfold storeAt;rw [h1];cases Nat.blt id m.lim<;>rfl
def Ni (P:Program):List Field->Nat->Nat->Bool
 | [],o,n=>Nat.beq o n
 | f::fs,o,n=>Nat.beq f.offset o&&Ni P fs (o+P.cellsOf f.type) n
def Ew (P:Program):Nat->TypeId->Bool
 | 0,_=>false
 | n+1,t=>match P.underlying t with
  | some .bool=>true
  | some (.int _)=>true
  | some .string=>true
  | some (.slice e)=>Ew P n e&&Nat.blt 0 (P.cellsOf e)
  | some (.struct fs)=>fs.toList.all (λf=>Ew P n f.type)&&Ni P fs.toList 0 (P.cellsOf t)
  | _=>false
def Lf (S:TypeId->List d9->Prop):List Field->List d9->Prop
 | [],vs=>vs=[]
 | f::fs,vs=>∃a b,vs=a++b∧S f.type a∧Lf S fs b
def BF (P:Program)(m:Mem):Nat->TypeId->List d9->Prop
 | 0,_,_=>False
 | n+1,t,vs=>match P.underlying t with
  | some .bool=>∃b,vs=[.bool b]
  | some (.int k)=>∃i,vs=[.int k i]∧(Lit.int k i).wf=true
  | some .string=>∃s:List UInt8,vs=[.str s]∧s.length<=maxLen
  | some (.slice e)=>vs=[.nilSlice]∨∃id len cap,vs=[.slice id 0 len cap]∧len<=cap∧cap<=maxLen∧
    ((cap=0∧m.get id=some .dead)∨∃rows,0<cap∧m.get id=some (.cells (P.cellsOf e) cap rows)∧∀i,i<cap->∃row,rows.get i=some row∧row.length=P.cellsOf e∧BF P m n e row)
  | some (.struct fs)=>Lf (BF P m n) fs.toList vs
  | _=>False
theorem IV {S S':TypeId->List d9->Prop}(h:∀t vs,S t vs->S' t vs):∀fs vs,Lf S fs vs->Lf S' fs vs
 | [],_,hv=>hv
 | _::fs,_,⟨a,b,e,h1,h2⟩=>⟨a,b,e,h _ _ h1,IV h fs b h2⟩
theorem tY {P:Program}{m d:Mem}(h:∀i b,m.get i=some b->d.get i=some b):∀n t vs,BF P m n t vs->BF P d n t vs:=by
 intro n;induction n with
 | zero=>intro t vs a;exact a
 | succ n ih=>
  intro t vs a;unfold BF at a ⊢;split at a;exact a;exact a;exact a;rcases a with a | ⟨id,len,cap,h1,h2,h3,h4⟩;exact .inl a;refine .inr ⟨id,len,cap,h1,h2,h3,?_⟩;rcases h4 with⟨h4,h5⟩ | ⟨rows,h4,h5,h6⟩;exact .inl ⟨h4,h _ _ h5⟩;exact .inr ⟨rows,h4,h _ _ h5,λi j=>by
   obtain⟨c,e,f,g⟩:=h6 i j;exact⟨c,e,f,ih _ _ g⟩⟩
  exact IV (λt vs=>ih t vs) _ _ a;exact a
section
variable {P:Program}{G:Mem}{hp:Array Obj}
theorem Mem.xH (m:Mem)(i:Nat):m.shut.get i=m.get i:=rfl
theorem RM.push {ι:K7}{m:Mem}(h:RM P G ι m hp)(s:m.lim=m.nx){b:U7}{l:Loc}(p:jd b=false)(hs:aC b=true->l.spot=none)
  (hb:fG P (ι.upd m.nx l) ((m.new b).nm (ι.upd m.nx l)) hp l b):RM P G (ι.upd m.nx l) (m.new b).shut hp:=by
 have c:∀i,(m.new b).shut.get i=if i=m.nx then some b else m.get i:=λi=>Mem.Q5 h.ok b i
 have o:∀i x,m.get i=some x->i≠m.nx:=λi x a e=>by have:=Mem.N9 h.ok a;omega
 have d:∀j,m.has j->ι.upd m.nx l j=ι j:=λj ⟨x,a,_⟩=>ι.upd_ne l (o j x a);have g:∀i,m.has i->(m.new b).shut.has i:=λi ⟨x,a,p⟩=>⟨x,by rw [c,if_neg (o i x a)];exact a,p⟩;have r:G.nx<=m.nx:=zu h.glim h.limn;refine⟨h.ok.push b,λi x a=>?_,λi x f a _=>?_,?_,aA _,h.gle,λi f=>?_,λi f=>g i (h.ghas i f),λi f=>?_,λi x a k=>?_,h.gsz⟩;rw [c] at a;split at a;rename_i e;subst e;cases a;rw [ι.V7];exact hb;rename_i e;rw [ι.upd_ne l e];exact (h.blk i x a).mono (n:=m.nm ι) d (Mem.bA g d) λ_=>rfl;have q:=Mem.N9 (m:=(m.new b).shut) (h.ok.push b) a;have f:(m.new b).shut.nx<=i:=f;omega;show G.nx<=m.nx+1;omega;rw [c,if_neg (by omega)];exact h.base i f;rw [d i (h.ghas i f)];exact h.glob i f;rw [c] at a;split at a;rename_i e;subst e;cases a;rw [ι.V7];exact hs k;rename_i e;rw [ι.upd_ne l e];exact h.spot i x a k
structure Lifts (P:Program)(G:Mem)(hp:Array Obj)(ι:K7)(m:Mem)(ι':K7)(m':Mem):Prop where
 rm:RM P G ι' m' hp
 lim:m'.lim=m'.nx
 get:∀i b,m.get i=some b->m'.get i=some b
 ext:∀i,m.has i->ι' i=ι i
theorem Lifts.refl {ι:K7}{m:Mem}(h:RM P G ι m hp)(a:m.lim=m.nx):Lifts P G hp ι m ι m:=⟨h,a,λ_ _ h=>h,λ_ _=>rfl⟩
theorem Lifts.has {ι ι':K7}{m a:Mem}(h:Lifts P G hp ι m ι' a)(i:Nat)(hi:m.has i):a.has i:=by obtain⟨x,b,c⟩:=hi;exact⟨x,h.get i x b,c⟩
theorem Lifts.trans {a ι2 c:K7}{e f m3:Mem}(h:Lifts P G hp a e ι2 f)(k:Lifts P G hp ι2 f c m3):Lifts P G hp a e c m3:=
 ⟨k.rm,k.lim,λi b g=>k.get i b (h.get i b g),λi d=>(k.ext i (h.has i d)).trans (h.ext i d)⟩
theorem Lifts.o8 {ι ι':K7}{m b:Mem}(h:Lifts P G hp ι m ι' b){vs:List d9}(a:dI (m.nm ι) vs):A8 ι' vs=A8 ι vs:=iq (n:=m.nm ι) h.ext vs a
theorem Lifts.lt {ι ι':K7}{m a:Mem}(h:Lifts P G hp ι m ι' a){vs:List d9}(b:dI (m.nm ι) vs):dI (a.nm ι') vs:=gK (Mem.bA h.has h.ext) vs b
theorem Lifts.push {ι:K7}{m:Mem}(h:RM P G ι m hp)(d:m.lim=m.nx){b:U7}{l:Loc}(f:jd b=false)(hs:aC b=true->l.spot=none)
  (hb:fG P (ι.upd m.nx l) ((m.new b).nm (ι.upd m.nx l)) hp l b):Lifts P G hp ι m (ι.upd m.nx l) (m.new b).shut:=by
 have c:∀i x,m.get i=some x->i≠m.nx:=λi x a e=>by have:=Mem.N9 h.ok a;omega
 exact⟨h.push d f hs hb,rfl,λi x a=>by rw [Mem.xH,Mem.Q5 h.ok,if_neg (c i x a)];exact a,λj ⟨x,a,_⟩=>ι.upd_ne l (c j x a)⟩
def Gets (P:Program)(G:Mem)(hp:Array Obj)(ι:K7)(m:Mem)(cs:List Value)(S:Mem->List d9->Prop):Prop:=
 ∃ι' m' vs,Lifts P G hp ι m ι' m'∧A8 ι' vs=cs∧dI (m'.nm ι') vs∧S m' vs
variable {H:Type}{enc:TypeId×Value->H}{w:World}{held:Bool}
theorem Qj {cs:List Value}{S:Mem->TypeId->List d9->Prop}(v:∀m m' t vs,(∀i b,m.get i=some b->m'.get i=some b)->S m t vs->S m' t vs):
  ∀(fs:List Field) (o:Nat),(∀f∈fs,∀ι m,RM P G ι m hp->m.lim=m.nx->Gets P G hp ι m ((cs.drop f.offset).take (P.cellsOf f.type)) (λm' vs=>S m' f.type vs))->Ni P fs o cs.length=true->
   ∀ι m,RM P G ι m hp->m.lim=m.nx->Gets P G hp ι m (cs.drop o) (λm' vs=>Lf (S m') fs vs):=by
 intro fs;induction fs with
 | nil=>intro o _ c ι m j h;have:o=cs.length:=rW c;exact⟨ι,m,[],Lifts.refl j h,by rw [this];simp [A8],trivial,rfl⟩
 | cons f fs ih=>intro o p c ι m j h;simp only [Ni,D5] at c;have u:f.offset=o:=rW c.1;obtain⟨k,z,a,e,r,n,s⟩:=p f (by simp) ι m j h;obtain⟨l,A,b,d,w,x,y⟩:=ih (o+P.cellsOf f.type) (λq g=>p q (by simp [g])) c.2 k z e.rm e.lim;refine⟨l,A,a++b,e.trans d,?_,jZ (d.lt n) x,a,b,rfl,v _ _ _ _ d.get s,y⟩;rw [lF,d.o8 n,r,w,u,← am2,amV]
theorem WL {n ce:Nat}{row:Nat->List Value}{S:Mem->List d9->Prop}(q:∀m m' vs,(∀i b,m.get i=some b->m'.get i=some b)->S m vs->S m' vs)
  (h:∀i,i<n->∀ι m,RM P G ι m hp->m.lim=m.nx->Gets P G hp ι m (row i) S):∀c,c<=n->∀ι m,RM P G ι m hp->m.lim=m.nx->
   ∃(ι':K7) (m':Mem) (rl:List (List d9)),Lifts P G hp ι m ι' m'∧rl.length=c∧∀i r,rl[i]?=some r->A8 ι' r=row i∧dI (m'.nm ι') r∧S m' r:=by
 intro c;induction c with
 | zero=>intro _ ι m g f;exact⟨ι,m,[],Lifts.refl g f,rfl,λi r a=>by simp at a⟩
 | succ c ih=>
  intro A ι m g f;obtain⟨j,v,rl,e,o,p⟩:=ih (by omega) ι m g f;obtain⟨k,w,r,d,s,t,u⟩:=h c (by omega) j v e.rm e.lim;refine⟨k,w,rl ++ [r],e.trans d,by simp [o],λi z a=>?_⟩;by_cases hi:i<rl.length;rw [ade hi] at a;obtain⟨x,l,y⟩:=p i z a;exact⟨by rw [d.o8 l,x],d.lt l,q _ _ _ d.get y⟩;rw [adq (by omega)] at a;have:i-rl.length=0:=by have:=(eP.1 a).1;simp at this;omega
  rw [this] at a;simp at a;subst a;rw [show i=c from by omega];exact⟨s,t,u⟩
theorem lift (k:Nat):∀(n:Nat) (t:TypeId) (cs:List Value) (x:DataW H×List MemPlace),DataW.trod enc P w 0 (λ_=>true) held n t cs=some x->Ew P k t=true->
  ∀ι m,RM P G ι m w.heap->m.lim=m.nx->Gets P G w.heap ι m cs (λm' vs=>BF P m' k t vs):=by
 induction k with
 | zero=>intro n t cs x _ h;cases h
 | succ k ih=>
  intro n t cs x y hp ι m E M;unfold Ew at hp;have q:∀vs:List d9,A8 ι vs=cs->dI (m.nm ι) vs->BF P m (k+1) t vs->Gets P G w.heap ι m cs (λm' vs=>BF P m' (k+1) t vs):=λvs Z h2 h3=>⟨ι,m,vs,Lifts.refl E M,Z,h2,h3⟩;split at hp;rename_i o;obtain⟨b,rfl,_⟩:=DataW.trod_bool o y;exact q [.bool b] rfl ⟨trivial,trivial⟩ (by unfold BF;rw [o];exact⟨b,rfl⟩);rename_i ik o;obtain⟨i,rfl,_,hw⟩:=DataW.trod_int o y;exact q [.int ik i] rfl ⟨trivial,trivial⟩ (by unfold BF;rw [o];exact⟨i,rfl,hw⟩);rename_i o;obtain⟨s,rfl,_,hw⟩:=DataW.trod_string o y;have a9:s.data.toList.length<=maxLen:=by simpa using hw
  exact q [.str s.data.toList] (by simp [A8,o8]) ⟨trivial,trivial⟩ (by unfold BF;rw [o];exact⟨s.data.toList,rfl,a9⟩);rename_i e o;simp only [D5] at hp;have z:0<P.cellsOf e:=O6.mp hp.2;rcases Deep.open_slice o y with⟨rfl,_⟩ | ⟨a,len,cap,mm,n',D,Pl,rfl,_,A,hcap,V,_,hel⟩;exact q [.nilSlice] rfl ⟨trivial,trivial⟩ (by unfold BF;rw [o];exact .inl rfl);have V:mm=cap:=by simpa using V
  subst V;by_cases h0:mm=0;subst h0;have A:len=0:=by omega
  subst A;have L:=Lifts.push (b:=.dead) (l:=⟨a.block,a.off,0,a.spot⟩) E M rfl (by intro h;cases h) trivial;refine⟨_,_,[.slice m.nx 0 0 0],L,?_,⟨⟨.dead,by rw [Mem.xH,Mem.Q5 E.ok,if_pos rfl],rfl⟩,trivial⟩,?_⟩;simp [A8,o8,K7.at];unfold BF;rw [o];exact .inr ⟨m.nx,0,0,rfl,aA _,hcap,.inl ⟨rfl,by rw [Mem.xH,Mem.Q5 E.ok,if_pos rfl]⟩⟩;obtain⟨row,N⟩:=Deep.choose_lt hel;obtain⟨u,C,R,U,g2,g3⟩:=WL (n:=mm) (ce:=P.cellsOf e) (row:=row) (S:=λm' vs=>BF P m' k e vs) (λm m' vs h hs=>tY h k e vs hs)
   (λi g ι m E M=>ih n' e (row i) _ (N i g).2 hp.1 ι m E M) mm (aA _) ι m E M
  have d:∀i j,i<mm->j<P.cellsOf e->w.cell? ((a.add (i*P.cellsOf e)).add j)=(row i)[j]?∧(row i).length=P.cellsOf e:=λi j g K=>by obtain⟨_,Q,I⟩:=World.cells?_some (N i g).1;exact⟨I j K,Q⟩
  have p:∀i j,i<mm->j<P.cellsOf e->∃v,(row i)[j]?=some v:=λi j g K=>⟨_,aP (by rw [(d i j g K).2];exact K)⟩;have B:a.spot=none:=by
   obtain⟨v,W⟩:=p 0 0 (by omega) z;have:=(d 0 0 (by omega) z).1;rw [W] at this;unfold World.cell? at this;split at this;split at this;cases this;rename_i hn;simp only [adD,Addr.add,if_true] at hn;cases hs:a.spot with
   | none=>rfl
   | some s=>rw [hs] at hn;simp at hn
   cases this
  obtain⟨c,X,Y,hc⟩:∃c X Y,w.heap[a.block]?=some (.cells c X Y):=by obtain⟨v,W⟩:=p 0 0 (by omega) z;have:=(d 0 0 (by omega) z).1;rw [W] at this;unfold World.cell? at this;split at this;rename_i c X Y hh;simp only [adD,Addr.add,if_true] at hh;exact⟨c,X,Y,hh⟩;cases this
  have a0:∀i j,(a.add (i*P.cellsOf e)).add j=⟨a.block,a.off+(i*P.cellsOf e+j),none⟩:=λi j=>by rw [Deep.add_add];unfold Addr.add;split;rename_i h;rw [h,adw,← B];rfl
  have a1:∀i j,i<mm->j<P.cellsOf e->c[a.off+(i*P.cellsOf e+j)]?=(row i)[j]?:=λi j g K=>by have:=(d i j g K).1;rw [a0] at this;simpa [World.cell?,hc] using this
  have F:a.off+mm*P.cellsOf e<=c.size:=by
   obtain⟨v,W⟩:=p (mm-1) (P.cellsOf e-1) (by omega) (by omega);have:=a1 (mm-1) (P.cellsOf e-1) (by omega) (by omega);rw [W] at this;have Z:=(L6.1 this).1;have h2:(mm-1)*P.cellsOf e+P.cellsOf e=mm*P.cellsOf e:=by rw [← adF];congr 1;omega
   omega
  have a6:∀i,i<mm->∃r,R[i]?=some r∧A8 u r=row i∧dI (C.nm u) r∧BF P C k e r∧r.length=P.cellsOf e:=λi g=>by have hh:R[i]?=some R[i]:=aP (by omega);obtain⟨O,Q,I⟩:=g3 i _ hh;refine⟨_,hh,O,Q,I,?_⟩;have:=congrArg List.length O;rw [bF] at this;rw [this,(d i 0 g z).2]
  have a5:∀i x,C.get i=some x->i≠C.nx:=λi x y e=>by have:=Mem.N9 U.rm.ok y;omega
  have J:∀j,C.has j->(u.upd C.nx ⟨a.block,a.off,mm*P.cellsOf e,none⟩) j=u j:=λj ⟨x,y,_⟩=>u.upd_ne _ (a5 j x y);have a3:∀i,C.has i->(C.new (.cells (P.cellsOf e) mm (T.ofList R))).has i:=λi ⟨x,y,W⟩=>⟨x,by rw [Mem.Q5 U.rm.ok,if_neg (a5 i x y)];exact y,W⟩;have L:=Lifts.push (b:=.cells (P.cellsOf e) mm (T.ofList R)) (l:=⟨a.block,a.off,mm*P.cellsOf e,none⟩) U.rm U.lim rfl (λ_=>rfl)
   ⟨c,X,Y,hc,F,⟨aA _,R.length,by omega,T.jy R⟩,λi g=>by
    obtain⟨r,O,Q,I,q4,q5⟩:=a6 i g;refine⟨r,by rw [T.aV];exact O,q5,gK (Mem.bA a3 J) r I,λj K=>?_⟩;show c[a.off+(i*P.cellsOf e+j)]?=_;rw [a1 i j g K,← Q,dB];cases hr:r[j]? with
    | none=>rfl
    | some v=>simp [Z5 (n:=C.nm u) J v (eH.1 I v (O0 hr))]⟩
  refine⟨_,_,[.slice C.nx 0 len mm],U.trans L,?_,⟨⟨_,by rw [Mem.xH,Mem.Q5 U.rm.ok,if_pos rfl],rfl⟩,trivial⟩,?_⟩;simp only [A8,o8];rw [K7.BR (by rw [K7.V7]),K7.V7];simp only [adw];rw [← B];unfold BF;rw [o];refine .inr ⟨C.nx,len,mm,rfl,A,hcap,.inr ⟨T.ofList R,by omega,by rw [Mem.xH,Mem.Q5 U.rm.ok,if_pos rfl],λi g=>?_⟩⟩;obtain⟨r,O,Q,I,q4,q5⟩:=a6 i g;exact⟨r,by rw [T.aV];exact O,q5,tY L.get k e r q4⟩;rename_i fs o;simp only [D5,adz] at hp;obtain⟨xs,n',rfl,_,a7,aa,hf⟩:=DataW.trod_struct o y;have:=Qj (P:=P) (G:=G) (hp:=w.heap) (cs:=cs) (S:=λm' t vs=>BF P m' k t vs) (λm m' t vs h hs=>tY h k t vs hs) fs.toList 0
   (λf a2 ι m E M=>by
    obtain⟨i,g⟩:=adr a2;have a4:fs[i]?=some f:=(by simpa using g);have Z:=hf i f a4;have a8:i<xs.length:=(by rw [aa];exact (L6.1 a4).1);rw [aP a8] at Z;exact ih n' f.type _ _ Z (hp.1 f a2) ι m E M) (by rw [a7];exact hp.2) ι m E M
  obtain⟨ab,m',vs,O,Q,I,q4⟩:=this;refine⟨ab,m',vs,O,by simpa using Q,I,?_⟩;unfold BF;rw [o];exact q4;cases hp
end
structure Ey (m:Mem)(id rs:Nat)(l:List (List d9)):Prop where
 pos:0<rs
 len:∀r,r∈l->r.length=rs
 blk:∃c t c',m.get id=some (.cells rs c t)∧l.length<=c∧c<=c'∧T.Ok t c'∧∀i (h:i<l.length),t.get i=some l[i]
structure bP (id:Nat)(m m':Mem):Prop where
 ok:T.Ok m'.t m'.nx
 nx:m.nx<=m'.nx
 lim:m'.lim=m.lim
 old:∀i,i<m.nx->i≠id->m'.get i=m.get i
theorem bP.refl {id:Nat}{m:Mem}(h:T.Ok m.t m.nx):bP id m m:=⟨h,aA _,rfl,λ_ _ _=>rfl⟩
theorem bP.trans {id:Nat}{a b c:Mem}(h:bP id a b)(k:bP id b c):bP id a c:=
 ⟨k.ok,zu h.nx k.nx,k.lim.trans h.lim,λi d e=>(k.old i (nA d h.nx) e).trans (h.old i d e)⟩
theorem Ext.toB {id:Nat}{a b:Mem}(h:Ext a b):bP id a b:=⟨h.ok,h.nx,h.lim,λi c _=>h.old i c⟩
theorem Ext.om {id:Nat}{a b c:Mem}(h:Ext a b)(k:bP id b c)(e:a.nx<=id):Ext a c:=
 ⟨k.ok,zu h.nx k.nx,k.lim.trans h.lim,λi d=>(k.old i (nA d h.nx) (by omega)).trans (h.old i d)⟩
theorem Ey.same {m a:Mem}{id rs:Nat}{l:List (List d9)}(h:Ey m id rs l)(e:a.get id=m.get id):Ey a id rs l:=by obtain⟨p,g,c,t,b,d,f⟩:=h;exact⟨p,g,c,t,b,e.trans d,f⟩
theorem Ey.ext {m b:Mem}{id rs:Nat}{l:List (List d9)}(h:Ey m id rs l)(a:id<m.nx)(e:Ext m b):Ey b id rs l:=h.same (e.old id a)
theorem Ey.take {m:Mem}{id rs:Nat}{l:List (List d9)}(h:Ey m id rs l)(k:Nat):Ey m id rs (l.take k):=by
 obtain⟨p,n,c,t,b,e,q,d,f,g⟩:=h;refine⟨p,λr o=>n r (adv o),c,t,b,e,by simp;omega,d,f,λi j=>?_⟩;have a:i<l.length:=by simp at j;omega
 rw [g i a,List.getElem_take]
theorem Ey.YR {m:Mem}{id rs:Nat}{l:List (List d9)}(h:Ey m id rs l){i:Nat}(hi:i<l.length):AM.YR (m.get id) (i*rs) rs=some (.agg l[i]):=by obtain⟨p,f,c,t,o,d,r,q,s,e⟩:=h;have g:=f l[i] (M7 hi);have b:=uT (rs:=rs) (n:=c) (rows:=t) (i:=i) (j:=0) (k:=rs) p (by omega) (e i hi) g (by omega);rw [adw] at b;rw [d];show aO (some (U7.cells rs c t)) (λa n rows=>ob (nR a n rows (i*rs) rs) λl=>some (d9.agg l))=_;rw [cu,b,I7,adx,adt (by omega)]
theorem Ey.ld1 {m:Mem}{id rs:Nat}{l:List (List d9)}(h:Ey m id rs l){i j:Nat}(hi:i<l.length)(f:j<rs):AM.ld1 (m.get id) (i*rs+j)=l[i][j]?:=by obtain⟨p,r,c,t,g,d,o,k,q,e⟩:=h;rw [d];show aO (some (U7.cells rs c t)) (λb n a=>cell1 b n a (i*rs+j))=_;rw [cu,gU f (by omega) (e i hi)]
theorem Ey.store {m:Mem}{id rs:Nat}{l:List (List d9)}(h:Ey m id rs l)(o:m.Ok)(a:id<m.nx)(d:m.lim<=id){i:Nat}(hi:i<l.length){row:List d9}(E:row.length=rs)(B:I6 row=true):
  ∃m',(∀{β:Type} (k:Mem->Option β),storeAt m id (i*rs) row k=k m')∧Ey m' id rs (l.set i row)∧bP id m m':=by
 obtain⟨p,v,c,t,w,y,z,x,g,s⟩:=h;have D:Nat.div (i*rs) rs=i:=ay3 i p;have G:Nat.mod (i*rs) rs=0:=Nat.mul_mod_left i rs;have f:=s i hi;have C:=v l[i] (M7 hi);have F:aj rs c t (i*rs) row=some (t.put i row):=by
  unfold aj;rw [D,G,show Nat.blt i c=true from O6.mpr (by omega),f];show bi (Nat.ble (Nat.add 0 (len' row)) rs) (some (t.put i (nI 0 row l[i]))) none=_;rw [K4,show Nat.ble (Nat.add 0 row.length) rs=true from wu (by show 0+row.length<=rs;omega),nL _ _ _ (by omega),am1,S9,
   O5 (by omega)]
  simp
 refine⟨m.set id (.cells rs c (t.put i row)),λk=>?_,⟨p,λr q=>?_,c,t.put i row,w,?_,by simpa using z,x,T.Ok.put g i row (by omega),λj u=>?_⟩,?_⟩;rw [aK d B,y];show ob (ob (aj rs c t (i*rs) row) λb=>some (U7.cells rs c b)) _=_;rw [F];rfl;rcases ahv q with h | rfl;exact v r h;exact E;rw [Mem.U6 o a,if_pos rfl];have n:j<l.length:=by simpa using u
 rw [aCG];split;rename_i e;subst e;exact T.Z7 g _ _ (by omega);rename_i e;rw [T.aU g _ _ _ (by omega) e];exact s j n;exact⟨Mem.Ok.set o a _,by simp,rfl,λj u A=>by rw [Mem.U6 o a,if_neg A]⟩
theorem CR {rs n:Nat}{rows:T (List d9)}:∀(a b off:Nat),J8 rs n rows (a+b) off=ob (J8 rs n rows a off) λx=>ob (J8 rs n rows b (off+a)) λy=>some (x++y)
 | 0,b,off=>by rw [S9,adw];show _=ob (J8 rs n rows b off) λy=>some ([]++y);cases J8 rs n rows b off<;>rfl
 | a+1,b,off=>by
  rw [show a+1+b=(a+b)+1 from by omega];show ob (cell1 rs n rows off) (λv=>ob (J8 rs n rows (a+b) (off+1)) λl=>some (v::l))=ob (ob (cell1 rs n rows off) λv=>ob (J8 rs n rows a (off+1)) λl=>some (v::l)) _;rw [CR a b (off+1),show off+1+a=off+(a+1) from by omega];cases cell1 rs n rows off with
  | none=>rfl
  | some v=>
   simp only [I7];cases J8 rs n rows a (off+1) with
   | none=>rfl
   | some x=>simp only [I7];cases J8 rs n rows b (off+(a+1))<;>rfl
theorem CS {rs n:Nat}{rows:T (List d9)}{i:Nat}{row:List d9}(hi:i<n)(h:rows.get i=some row)(c:row.length=rs):
  ∀k j,j+k=rs->J8 rs n rows k (i*rs+j)=some (row.drop j):=by
 intro k;induction k with
 | zero=>intro j b;rw [O5 (by omega)];rfl
 | succ k ih=>
  intro j b;show ob (cell1 rs n rows (i*rs+j)) (λv=>ob (J8 rs n rows k (i*rs+j+1)) λl=>some (v::l))=_;have a:j<row.length:=by omega
  rw [gU (by omega) hi h,aP a,I7,show i*rs+j+1=i*rs+(j+1) from by omega,ih (j+1) (by omega),Q6 a];rfl
theorem jP {rs n:Nat}{rows:T (List d9)}{l:List (List d9)}(c:∀r,r∈l->r.length=rs)(h:∀i (h:i<l.length),rows.get i=some l[i])(d:l.length<=n):
  ∀k i,i+k=l.length->J8 rs n rows (k*rs) (i*rs)=some (l.drop i).flatten:=by
 intro k;induction k with
 | zero=>intro i b;rw [O5 (by omega),adD];rfl
 | succ k ih=>
  intro i b;have a:i<l.length:=by omega
  have:=CS (n:=n) (i:=i) (by omega) (h i a) (c _ (M7 a)) rs 0 (by omega);rw [adw,adx] at this;rw [show (k+1)*rs=rs+k*rs from by rw [adX,Nat.one_mul,an6],CR,this,I7,show i*rs+rs=(i+1)*rs from by rw [adX,Nat.one_mul],ih (i+1) (by omega),I7,Q6 a];rfl
theorem FJ {rs:Nat}:∀(l:List (List d9)),(∀r,r∈l->r.length=rs)->rowsOf rs l.length l.flatten=some l
 | [],_=>rfl
 | r::l,h=>by have hr:=h r (by simp);show ob (takeN rs (r++l.flatten)) (λx=>ob (rowsOf rs l.length (gZ rs (r++l.flatten))) λrest=>some (x::rest))=_;rw [jX _ _ (by simp;omega),I7,gJ,List.drop_left' hr,List.take_left' hr,FJ l (λx hx=>h x (by simp [hx]))];rfl
theorem Nj {m:Mem}(b:m.Ok){rs:Nat}(hp:0<rs){l:List (List d9)}(a:∀r,r∈l->r.length=rs):Ey (m.new (.cells rs l.length (T.ofList l))) m.nx rs l:=
 ⟨hp,a,l.length,T.ofList l,l.length,by rw [Mem.Q5 b,if_pos rfl],aA _,aA _,T.jy l,λi h=>by rw [T.aV,aP h]⟩
theorem Bc {m:Mem}{rs:Nat}{l:List (List d9)}(b:∀r,r∈l->r.length=rs):grown m rs l.length l.flatten=some [⟨.sliceU m.nx 0 l.length rs,m.new (.cells rs l.length (T.ofList l))⟩]:=by show ob (rowsOf rs l.length l.flatten) (λa=>one (d9.sliceU m.nx 0 l.length rs) (m.new (.cells rs l.length (T.ofList a))))=_;rw [FJ l b];rfl
theorem jQ:∀(a b:List d9),I6 (a++b)=(I6 a&&I6 b)
 | [],_=>rfl
 | v::a,b=>by show bi (D6 v) (I6 (a++b)) false=(bi (D6 v) (I6 a) false&&I6 b);rw [jQ a b];cases D6 v<;>rfl
theorem xI:∀(l:List (List d9)),(∀r,r∈l->I6 r=true)->I6 l.flatten=true
 | [],_=>rfl
 | r::l,h=>by rw [azG,jQ,h r (by simp),xI l (λx hx=>h x (by simp [hx]))];rfl
theorem vP {rs n:Nat}(hp:0<rs):∀(vs:List d9) (t:T (List d9)) (off k n':Nat),n<=n'->T.Ok t n'->k*rs<=off->off+vs.length<=n*rs->
  ∃t',jr rs n vs t off=some t'∧T.Ok t' n'∧∀i,i<k->t'.get i=t.get i
 | [],t,off,k,n',_,h,_,_=>⟨t,rfl,h,λ_ _=>rfl⟩
 | v::vs,t,off,k,n',hnn,h,hk,hn=>by
  have hlt:off<n*rs:=by simp at hn;omega
  have hd:off / rs<n:=Nat.div_lt_of_lt_mul (by rw [adS];exact hlt);obtain⟨row,hrow⟩:=(h.get _).2 (nA hd hnn);have hmod:off%rs<rs:=ah5 _ hp;have hkd:k<=off / rs:=(ako hp).2 hk;have hw:aj rs n t off [v]=some (t.put (off / rs) (nI (off%rs) [v] row)):=by show bi (Nat.blt (off / rs) n) (ob (t.get (off / rs)) λrow=>bi (Nat.ble (off%rs+1) rs) (some (t.put (off / rs) (nI (off%rs) [v] row))) none) none=_;rw [show Nat.blt (off / rs) n=true from O6.mpr hd,hrow,Z6,I7,show Nat.ble (off%rs+1) rs=true from wu hmod];rfl
  obtain⟨t',h1,h2,h3⟩:=vP hp vs (t.put (off / rs) (nI (off%rs) [v] row)) (off+1) k n' hnn (T.Ok.put h _ _ (nA hd hnn)) (by omega) (by simp at hn;omega);refine⟨t',?_,h2,λi hi=>?_⟩;show ob (aj rs n t off [v]) (λrows'=>jr rs n vs rows' (off+1))=_;rw [hw];exact h1;rw [h3 i hi,T.aU h _ _ _ (by omega) (by omega)]
theorem Ey.clear {m:Mem}{id rs:Nat}{l:List (List d9)}(h:Ey m id rs l)(r:m.Ok)(a:id<m.nx)(g:m.lim<=id){k:Nat}(K:k<=l.length){vs:List d9}(F:k*rs+vs.length<=l.length*rs)(E:I6 vs=true):
  ∃m',(∀{β:Type} (f:Mem->Option β),eY m id (k*rs) vs f=f m')∧Ey m' id rs (l.take k)∧bP id m m':=by
 have x:=h.take k;obtain⟨p,L,c,t,u,y,z,w,A,B⟩:=h;cases vs with
 | nil=>exact⟨m,λf=>rfl,x,bP.refl r⟩
 | cons v vs=>
  obtain⟨s,G,H,I⟩:=vP p (v::vs) t (k*rs) k u w A (aA _) (zu F (adb _ z));refine⟨m.set id (.cells rs c s),λ{β} f=>?_,⟨p,x.len,c,s,u,by rw [Mem.U6 r a,if_pos rfl],by simp;omega,w,H,λi C=>?_⟩,Mem.Ok.set r a _,by simp,rfl,λj J D=>by rw [Mem.U6 r a,if_neg D]⟩;show bi (Nat.blt id m.lim) none (bi (I6 (v::vs)) (aO (m.get id) λq n o=>ob (jr q n (v::vs) o (k*rs)) λb=>f (m.set id (.cells q n b))) none)=f (m.set id (.cells rs c s));rw [show Nat.blt id m.lim=false from adj.2 λe=>absurd (O6.mp e) (Nat.not_lt.2 g),E,y,aJ,Z6,cu,G];rfl;have d:i<k∧i<l.length:=by simp at C;omega
  rw [I i d.1,B i d.2,List.getElem_take]
theorem FK {z:List d9}:∀n,(P7 z n).length=n*z.length
 | 0=>by rw [adD];rfl
 | n+1=>by show (bU z (P7 z n)).length=_;rw [U9,U1,FK n,adX];omega
theorem FL {z:List d9}(h:I6 z=true):∀n,I6 (P7 z n)=true
 | 0=>rfl
 | n+1=>by show I6 (bU z (P7 z n))=true;rw [U9,jQ,h,FL h n];rfl
def dV (m:Mem)(v:d9)(xs:List d9):Prop:=
 (v=.nilSlice∧xs=[])∨∃id off,((∃c,v=.slice id off xs.length c∧xs.length<=c)∨v=.sliceU id off xs.length 1)∧id<m.nx∧
  (xs=[]∨∃n rows,m.get id=some (.cells 1 n rows)∧off+xs.length<=n∧∀i (h:i<xs.length),rows.get (off+i)=some [xs[i]])
def vX (m:Mem)(v:d9)(xs:List d9):Prop:=
 ∃id off c,v=.slice id off xs.length c∧xs.length<=c∧id<m.nx∧
  (xs=[]∨∃n rows,m.get id=some (.cells 1 n rows)∧off+xs.length<=n∧∀i (h:i<xs.length),rows.get (off+i)=some [xs[i]])
theorem vX.vs {m:Mem}{v:d9}{xs:List d9}(h:vX m v xs):dV m v xs:=by obtain⟨id,a,c,b,d,e,f⟩:=h;exact .inr ⟨id,a,.inl ⟨c,b,d⟩,e,f⟩
theorem dV.keep {m b:Mem}{v:d9}{xs:List d9}(a:dV m v xs)(d:m.nx<=b.nx)(h:∀id n rows,id<m.nx->m.get id=some (.cells 1 n rows)->(∃o l c,v=.slice id o l c)∨(∃o l e,v=.sliceU id o l e)->b.get id=m.get id):dV b v xs:=by rcases a with a | ⟨id,off,h1,h2,h3⟩;exact .inl a;refine .inr ⟨id,off,h1,nA h2 d,?_⟩;rcases h3 with h3 | ⟨n,rows,h4,h5,h6⟩;exact .inl h3;refine .inr ⟨n,rows,(h id n rows h2 h4 ?_).trans h4,h5,h6⟩;rcases h1 with⟨c,rfl,_⟩ | rfl;exact .inl ⟨_,_,_,rfl⟩;exact .inr ⟨_,_,_,rfl⟩
theorem dV.ext {m a:Mem}(h:Ext m a){v:d9}{xs:List d9}(c:dV m v xs):dV a v xs:=c.keep h.nx λid _ _ b _ _=>h.old id b
theorem vX.keep {m b:Mem}{v:d9}{xs:List d9}(i:vX m v xs)(g:m.nx<=b.nx)(h:∀id n rows,id<m.nx->m.get id=some (.cells 1 n rows)->(∃o l c,v=.slice id o l c)->b.get id=m.get id):vX b v xs:=by obtain⟨id,d,c,rfl,f,e,a⟩:=i;refine⟨id,d,c,rfl,f,nA e g,?_⟩;rcases a with a | ⟨n,rows,h4,h5,h6⟩;exact .inl a;exact .inr ⟨n,rows,(h id n rows e h4 ⟨_,_,_,rfl⟩).trans h4,h5,h6⟩
theorem vX.ext {m a:Mem}(h:Ext m a){v:d9}{xs:List d9}(c:vX m v xs):vX a v xs:=c.keep h.nx λid _ _ b _ _=>h.old id b
theorem dV.cells {m:Mem}{v:d9}{xs:List d9}(h:dV m v xs):v.cells=[v]:=by rcases h with⟨rfl,rfl⟩ | ⟨id,off,⟨c,rfl,_⟩ | rfl,_⟩<;>rfl
theorem dV.dD {m:Mem}{v:d9}{xs:List d9}(h:dV m v xs){a:Type}(p:d9->a)(q:a):fD v p q=q:=by rcases h with⟨rfl,rfl⟩ | ⟨id,off,⟨c,rfl,_⟩ | rfl,_⟩<;>rfl
theorem dV.D6 {m:Mem}{v:d9}{xs:List d9}(h:dV m v xs):Go.AM.D6 v=true:=by rcases h with⟨rfl,rfl⟩ | ⟨id,off,⟨c,rfl,_⟩ | rfl,_⟩<;>rfl
theorem dV.len {m:Mem}{v:d9}{xs:List d9}(h:dV m v xs):ze v (some (d9.int .i64 0)) (λ_ _ n _=>some (.int .i64 n)) (λ_ _ n _=>some (.int .i64 n))=some (.int .i64 xs.length):=by rcases h with⟨rfl,rfl⟩ | ⟨id,off,⟨c,rfl,_⟩ | rfl,_⟩<;>rfl
theorem dV.lenOf {m:Mem}{v:d9}{xs:List d9}(h:dV m v xs):Go.AM.lenOf v=some xs.length:=by rcases h with⟨rfl,rfl⟩ | ⟨id,off,⟨c,rfl,_⟩ | rfl,_⟩<;>rfl
theorem dV.at {m:Mem}{v:d9}{xs:List d9}(h:dV m v xs){i:Nat}(hi:i<xs.length):
  ∃id o,ze v none (λid off len _=>idx len (.int .i64 i) λk=>some (d9.ptr id (off+k))) (λid off len _=>idx len (.int .i64 i) λk=>some (d9.ptr id (off+k)))=some (.ptr id o)∧id<m.nx∧ld1 (m.get id) o=some xs[i]:=by
 rcases h with⟨_,rfl⟩ | ⟨id,off,h1,h2,h3⟩;simp at hi;rcases h3 with rfl | ⟨n,rows,h4,h5,h6⟩;simp at hi;refine⟨id,off+i,?_,h2,by rw [h4];exact UQ (by omega) (h6 i hi)⟩;rcases h1 with⟨c,rfl,_⟩ | rfl;simp only [zy];rw [V6 _ _ _ hi];simp only [uS];rw [V6 _ _ _ hi]
theorem dV.Qk {m:Mem}{v x:d9}{xs:List d9}(h:dV m v (x::xs)):
  ∃id o,ze v none (λid off len _=>idx len (.int .i64 0) λk=>some (d9.ptr id (off+k))) (λid off len _=>idx len (.int .i64 0) λk=>some (d9.ptr id (off+k)))=some (.ptr id o)∧id<m.nx∧ld1 (m.get id) o=some x:=by
 have:=h.at (i:=0) (by simp);simpa using this
theorem Ql {n off:Nat}{rows:T (List d9)}{xs:List d9}(h:∀i (h:i<xs.length),rows.get (off+i)=some [xs[i]])(c:off+xs.length<=n):
  ∀(j i:Nat),i+j=xs.length->J8 1 n rows j (off+i)=some (xs.drop i):=by
 intro j;induction j with
 | zero=>intro i b;rw [O5 (by omega)];rfl
 | succ j ih=>
  intro i b;have a:i<xs.length:=by omega
  show ob (cell1 1 n rows (off+i)) (λv=>ob (J8 1 n rows j (off+i+1)) λl=>some (v::l))=_;have e:cell1 1 n rows (off+i)=some xs[i]:=by
   have:=gU (rs:=1) (n:=n) (rows:=rows) (i:=off+i) (j:=0) (by omega) (by omega) (h i a)
   rwa [aeN] at this
  rw [e,show off+i+1=off+(i+1) from by omega,ih (i+1) (by omega),Q6 a];rfl
theorem dV.read {m:Mem}{v:d9}{xs:List d9}(h:dV m v xs):bS m 1 xs.length v=some xs:=by
 rcases h with⟨rfl,rfl⟩ | ⟨id,off,h1,h2,h3⟩;rfl;have b:V4 m id off (Nat.mul xs.length 1)=some xs:=by
  have e:Nat.mul xs.length 1=xs.length:=aeN _;rw [e];rcases h3 with rfl | ⟨n,a,h4,h5,h6⟩;rfl;cases hx:xs.length with
  | zero=>rw [acS.1 hx];rfl
  | succ k=>show aO (m.get id) (λf d a=>J8 f d a (k+1) off)=_;have:=Ql h6 h5 (k+1) 0 (by omega);rw [h4,cu,← adw off,this,adx]
 rcases h1 with⟨c,rfl,_⟩ | rfl<;>exact b
theorem vX.tail {m:Mem}{v x:d9}{xs:List d9}(h:vX m v (x::xs)):∃v',vX m v' xs∧(∀(y a:OF) (ls:List d9) (env:T d9) (nid:Nat),y ls env=v->a ls env=.int .i64 1->Rn 1 y (some a) none ls env nid=some (v',none))∧∀i o l c,v'=.slice i o l c->∃o2 l2 c2,v=.slice i o2 l2 c2:=by
 obtain⟨id,b,c,rfl,f,g,d⟩:=h;have k:xs.length+1<=c:=by simpa using f
 refine⟨.slice id (bi (Nat.beq 1 c) b (Nat.add b (Nat.mul 1 1))) xs.length (c-1),⟨id,_,c-1,rfl,by omega,g,?_⟩,λy a ls env nid p j=>?_,λi o l q h=>by cases h;exact⟨_,_,_,rfl⟩⟩;by_cases hx:xs=[];exact .inl hx;have s:=acC.2 hx;rcases d with d | ⟨n,rows,h4,h5,h6⟩;cases d;refine .inr ⟨n,rows,h4,?_⟩;rw [U8,if_neg (by omega)];have e:Nat.add b (Nat.mul 1 1)=b+1:=rfl;rw [e];refine⟨by simp at h5;omega,λi r=>?_⟩;have:=h6 (i+1) (by simp;omega);rw [show b+1+i=b+(i+1) from by omega,this];rfl;show iR (a ls env) (λl=>J5 nid 1 (y ls env) l none)=_;rw [j,p];show J5 nid 1 (.slice id b (xs.length+1) c) 1 none=_;show bi (Nat.ble 1 (xs.length+1)) (bi (Nat.ble (xs.length+1) c) (some (d9.slice id (bi (Nat.beq 1 c) b (Nat.add b (Nat.mul 1 1))) (Nat.sub (xs.length+1) 1) (Nat.sub c 1),none)) none) none=_;rw [show Nat.ble 1 (xs.length+1)=true from wu (by omega),show Nat.ble (xs.length+1) c=true from wu k];rfl
structure Fr (lo p:Nat)(m m':Mem):Prop where
 ok:T.Ok m'.t m'.nx
 nx:m.nx<=m'.nx
 lim:m'.lim=m.lim
 old:∀i,i<lo->i≠p->m'.get i=m.get i
theorem Fr.refl {lo p:Nat}{m:Mem}(h:T.Ok m.t m.nx):Fr lo p m m:=⟨h,aA _,rfl,λ_ _ _=>rfl⟩
theorem Fr.trans {lo p:Nat}{a b c:Mem}(h:Fr lo p a b)(k:Fr lo p b c):Fr lo p a c:=
 ⟨k.ok,zu h.nx k.nx,k.lim.trans h.lim,λi d e=>(k.old i d e).trans (h.old i d e)⟩
theorem Ext.fr {lo p:Nat}{m m':Mem}(h:Ext m m')(a:lo<=m.nx):Fr lo p m m':=⟨h.ok,h.nx,h.lim,λi b _=>h.old i (by omega)⟩
theorem bP.fr {lo p:Nat}{m m':Mem}(h:bP p m m')(a:lo<=m.nx):Fr lo p m m':=⟨h.ok,h.nx,h.lim,λi c b=>h.old i (by omega) b⟩
theorem Fr.ext {lo p:Nat}{m m':Mem}(h:Fr lo p m m')(a:m.nx<=lo)(hp:lo<=p):Ext m m':=⟨h.ok,h.nx,h.lim,λi b=>h.old i (by omega) (by omega)⟩
theorem Fr.Gn {lo p:Nat}{m m':Mem}(h:Fr lo p m m')(a:m.nx<=lo):bP p m m':=⟨h.ok,h.nx,h.lim,λi c b=>h.old i (by omega) b⟩
theorem Fr.mono {lo p q:Nat}{m m':Mem}(h:Fr lo p m m')(hp:lo<=p):Fr lo q m m':=⟨h.ok,h.nx,h.lim,λi a _=>h.old i a (by omega)⟩
theorem Fr.down {lo a p:Nat}{m m':Mem}(h:Fr lo p m m')(d:a<=lo):Fr a p m m':=⟨h.ok,h.nx,h.lim,λi c b=>h.old i (by omega) b⟩
def kC (lo:Nat)(m:Mem)(v:d9)(l:List d9):Prop:=
 (v=.nilSlice∧l=[])∨∃id,lo<=id∧id<m.nx∧I6 l=true∧Ey m id 1 (l.map ([·]))∧(v=.slice id 0 l.length l.length∨v=.sliceU id 0 l.length 1)
theorem kC.nil (lo:Nat)(m:Mem):kC lo m .nilSlice []:=.inl ⟨rfl,rfl⟩
theorem kC.keep {lo:Nat}{m a:Mem}{v:d9}{l:List d9}(h:kC lo m v l)(b:m.nx<=a.nx)(c:∀i,lo<=i->i<m.nx->a.get i=m.get i):kC lo a v l:=by rcases h with h | ⟨id,h1,h2,h3,h4,h5⟩;exact .inl h;exact .inr ⟨id,h1,nA h2 b,h3,h4.same (c id h1 h2),h5⟩
theorem kC.ext {lo:Nat}{m a:Mem}{v:d9}{l:List d9}(h:kC lo m v l)(e:Ext m a):kC lo a v l:=h.keep e.nx λi _ b=>e.old i b
theorem kC.Gn {lo p:Nat}{m a:Mem}{v:d9}{l:List d9}(h:kC lo m v l)(e:bP p m a)(hp:p<lo):kC lo a v l:=h.keep e.nx λi c b=>e.old i b (by omega)
theorem CU:∀l:List d9,(l.map ([·])).flatten=l
 | []=>rfl
 | x::l=>by rw [adU,azG,CU l];rfl
theorem kC.vs {lo:Nat}{m:Mem}{v:d9}{l:List d9}(h:kC lo m v l):dV m v l:=by rcases h with h | ⟨id,h1,h2,h3,h4,h5⟩;exact .inl h;obtain⟨p,g,c,t,f,b,d,j,k,e⟩:=h4;refine .inr ⟨id,0,?_,h2,.inr ⟨c,t,b,by simpa using d,λi a=>?_⟩⟩;rcases h5 with h5 | h5;exact .inl ⟨_,h5,aA _⟩;exact .inr h5;rw [S9,e i (by simpa using a)];simp
theorem kC.sl {lo:Nat}{m:Mem}{v:d9}{xs:List Int}(h:kC lo m v (ints xs)):Z8 m v xs:=by
 have a:(ints xs).length=xs.length:=by simp [ints]
 rcases h with⟨h,h'⟩ | ⟨id,h1,h2,h3,h4,h5⟩;exact .inl ⟨h,by simpa [ints] using h'⟩;obtain⟨p,j,c,t,g,d,e,k,l,f⟩:=h4;rw [a] at h5;refine .inr ⟨(id,0),?_,h2,.inr ⟨c,t,d,by simpa [ints] using e,λi b=>?_⟩⟩;rcases h5 with h5 | h5;exact .inl ⟨_,h5⟩;exact .inr ⟨_,h5⟩;rw [S9,f i (by simpa [ints] using b)];simp [ints]
theorem FM {n bytes:Nat}(h:n<=100000)(hb:1<=bytes∧bytes<=1000):big n bytes 1=true:=by show bi (Nat.ble ((2*n+2048)*bytes) 281474976710656) (bi true (Nat.ble 1 bytes) false) false=true;rw [show Nat.ble ((2*n+2048)*bytes) 281474976710656=true from wu (zu (azY (show 2*n+2048<=202048 by omega) hb.2) (by decide)),show Nat.ble 1 bytes=true from wu hb.1];rfl
theorem uX {lo:Nat}{m:Mem}(e:m.Ok)(c:lo<=m.nx)(l:List d9)(d:I6 l=true):grown m 1 l.length l=some [⟨.sliceU m.nx 0 l.length 1,m.new (.cells 1 l.length (T.ofList (l.map ([·]))))⟩]∧kC lo (m.new (.cells 1 l.length (T.ofList (l.map ([·]))))) (.sliceU m.nx 0 l.length 1) l:=by
 have b:∀r,r∈l.map ([·])->r.length=1:=λr b=>by obtain⟨x,_,rfl⟩:=adM.1 b;rfl
 have g:=Bc (m:=m) b;have a:=Nj e (rs:=1) (by omega) b;rw [adN] at g a;rw [CU] at g;exact⟨g,.inr ⟨m.nx,c,by simp,d,a,.inr rfl⟩⟩
theorem Fr.new {lo:Nat}{m:Mem}(c:m.Ok)(a:lo<=m.nx)(b:U7):Fr lo lo m (m.new b):=((Ext.refl c).new b).fr a
theorem aeE {lo bytes:Nat}{m:Mem}{v:d9}{l xs:List d9}(w:m.Ok)(K:m.lim<=lo)(d:lo<=m.nx)(h:kC lo m v l)(E:I6 xs=true)(hb:l.length+xs.length<=100000)(f:1<=bytes∧bytes<=1000):
  ∃v' m',oz m 1 bytes xs.length xs v=some [⟨v',m'⟩]∧kC lo m' v' (l++xs)∧Fr lo lo m m':=by
 by_cases hf:xs=[];subst hf;refine⟨v,m,?_,by simpa using h,Fr.refl w⟩;rcases h with⟨rfl,rfl⟩ | ⟨id,_,_,_,_,rfl | rfl⟩;rfl;show bi (Nat.ble (l.length+0) l.length) (one (.slice id 0 (l.length+0) l.length) m) _=_;rw [adw,show Nat.ble l.length l.length=true from wu (aA _)];rfl;rfl;obtain⟨k,F⟩:∃k,xs.length=k+1:=⟨xs.length-1,by have:=acC.2 hf;omega⟩;rcases h with⟨rfl,rfl⟩ | ⟨id,i1,i2,i3,ha,hv⟩;obtain⟨g,o⟩:=uX (lo:=lo) w d xs E;refine⟨_,_,?_,by rw [adl];exact o,Fr.new w d _⟩;rw [← g];show Ml m 1 bytes xs.length xs=_;rw [F];show bi (big (k+1) bytes 1) _ none=_;rw [FM (by simp at hb;omega) f];rfl;have u:I6 (l++xs)=true:=by rw [jQ,i3,E];rfl
 obtain⟨p,P,c,t,H,I,L,V,G,M⟩:=ha;have D:l.length<=c:=by simpa using L
 have C:J8 1 c t l.length 0=some l:=by
  have:=jP (rs:=1) (n:=c) (rows:=t) P M L l.length 0 (by simp)
  rwa [aeN,adD,adx,CU] at this
 rcases hv with rfl | rfl;obtain⟨g,o⟩:=uX (lo:=lo) w d (l++xs) u;refine⟨_,_,?_,o,Fr.new w d _⟩;rw [← g];show ji m 1 bytes xs.length xs id 0 l.length l.length=_;unfold ji;have N:Nat.ble (Nat.add l.length xs.length) l.length=false:=by rw [adj];intro e;have:l.length+xs.length<=l.length:=M8 e;omega
 have O:V4 m id 0 (Nat.mul l.length 1)=some l:=by
  rw [show Nat.mul l.length 1=l.length from aeN _];cases hll:l.length with
  | zero=>rw [acS.1 hll];rfl
  | succ j=>show aO (m.get id) (λrs R rows=>J8 rs R rows (j+1) 0)=_;rw [I,cu,← hll,C]
 rw [N,aJ,show Nat.add l.length xs.length=(l++xs).length from by simp,FM (by simpa using hb) f,Z6,O,I7,U9];have a:(m.set id .dead).Ok:=Mem.Ok.set w i2 _;have A:∀b,Fr lo lo m ((m.set id .dead).new b):=λb=>⟨Mem.Ok.new a _,by simp,by simp,λi J _=>by
  rw [Mem.Q5 a,if_neg (by simp;omega),Mem.U6 w i2,if_neg (by omega)]⟩
 have s:Nat.ble m.lim id=true:=wu (by omega);by_cases hone:xs.length=1;obtain⟨x,rfl⟩:∃x,xs=[x]:=azL.1 hone;have B:∃c'',l.length+1<=c''∧T.Ok (t.put l.length [x]) c'':=by
  by_cases hc:l.length<H;exact⟨H,hc,T.Ok.put G _ _ hc⟩;obtain rfl:H=l.length:=by omega
  exact⟨l.length+1,aA _,T.Ok.push G _⟩
 obtain⟨c'',S,U⟩:=B;refine⟨.sliceU m.nx 0 (l.length+1) 1,(m.set id .dead).new (.cells 1 (l.length+1) (t.put l.length [x])),?_,.inr ⟨m.nx,d,by simp,u,⟨by omega,λr Q=>?_,l.length+1,t.put l.length [x],c'',?_,by simp,S,U,λi J=>?_⟩,.inr (by simp)⟩,A _⟩;show pQ m 1 bytes 1 [x] id 0 l.length 1=_;show bi (Nat.beq 1 1) (bi (big (l.length+1) bytes 1) (bi (Nat.ble m.lim id) (bi (I6 [x]) (wG (m.get id) _ _) none) none) none) none=_;rw [FM (by simpa using hb) f,s,E,I];show bi (bi (Nat.beq 1 1) (bi (Nat.beq 0 0) (bi (Nat.ble l.length c) (bi (Nat.beq 1 1) (Nat.beq (len' [x]) 1) false) false) false) false) _ _=_;rw [show Nat.ble l.length c=true from wu D];rfl;obtain⟨y,_,rfl⟩:=adM.1 Q;rfl;rw [Mem.Q5 a];simp;by_cases hil:i=l.length;subst hil;rw [T.Z7 G _ _ (by omega)];simp;have q:i<l.length:=by simp at J;omega
 rw [T.aU G _ _ _ (by omega) (akd hil),M i (by simpa using q)];simp [adP,q];obtain⟨g,o⟩:=uX (lo:=lo) a (by simpa using d) (l++xs) u;refine⟨_,_,?_,o,A _⟩;rw [← g];show pQ m 1 bytes xs.length xs id 0 l.length 1=_;unfold pQ;rw [F];show bi (Nat.beq 1 1) (bi (big (l.length+(k+1)) bytes 1) (bi (Nat.ble m.lim id) (bi (I6 xs) (wG (m.get id) _ _) none) none) none) none=_;rw [FM (by omega) f,s,E,I];show bi (bi (Nat.beq 1 1) (bi (Nat.beq 0 0) (bi (Nat.ble l.length c) (bi (Nat.beq (k+1) 1) (Nat.beq (len' xs) 1) false) false) false) false) _ (ob (J8 1 c t (Nat.mul l.length 1) 0) λz=>grown (m.set id .dead) 1 (Nat.add l.length (k+1)) (bU z xs))=_;rw [show Nat.ble l.length c=true from wu D,show Nat.beq (k+1) 1=false from adj.2 λe=>hone (by rw [F];exact rW e),
  show Nat.mul l.length 1=l.length from aeN _,show Nat.add l.length (k+1)=(l++xs).length from by simp [F]]
 show ob (J8 1 c t l.length 0) (λz=>grown (m.set id .dead) 1 (l++xs).length (bU z xs))=_;rw [C,I7,U9]
theorem Sy {lo bytes:Nat}{m:Mem}{v x:d9}{l xs:List d9}(k:m.Ok)(a:m.lim<=lo)(c:lo<=m.nx)(h:kC lo m v l)(e:dV m x xs)(j:I6 xs=true)(hb:l.length+xs.length<=100000)(b:1<=bytes∧bytes<=1000):
  ∃v' m',(∀(s y:OF) (cf:H8) (ls:List d9) (env:T d9),s ls env=v->y ls env=x->sQ 1 bytes s y cf ls env m=some [⟨v',m'⟩])∧kC lo m' v' (l++xs)∧Fr lo lo m m':=by
 obtain⟨v',m',f,g,i⟩:=aeE k a c h j hb b;refine⟨v',m',λs y cf ls env o p=>?_,g,i⟩;show ob (AM.lenOf (y ls env)) (λn=>ob (bS m 1 n (y ls env)) λd=>oz m 1 bytes n d (s ls env))=_;rw [p,o,e.lenOf,I7,e.read,I7,f]
theorem zC:∀a b:List UInt8,strEq a b=decide (a=b)
 | [],[]=>rfl
 | [],_ :: _=>rfl
 | _ :: _,[]=>rfl
 | x::a,y::b=>by show bi (Nat.beq x.toNat y.toNat) (strEq a b) false=_;rw [U8,zC a b];by_cases h:x=y;subst h;rw [if_pos rfl];simp;rw [if_neg (λe=>h (azW.1 e))];simp [h]
@[simp] theorem aB5 (a b:List UInt8):DF a b=some (.bool (decide (a=b))):=by rw [← zC];rfl
@[simp] theorem aB6 (a b:List UInt8):XU a b=some (.bool (!decide (a=b))):=by rw [← zC];rfl
theorem aM {a b:List UInt8}(h:a.length+b.length<9223372036854775808):gy a b=some (.str (a++b)):=by show bi (Nat.blt (Nat.add (len' a) (len' b)) 9223372036854775808) (some (d9.str (bU a b))) none=_;rw [K4,K4,U9,show Nat.blt (Nat.add a.length b.length) 9223372036854775808=true from O6.mpr h];rfl
@[simp] theorem anN (a b:List UInt8):eqStr (.str a) (.str b)=some (decide (a=b)):=by rw [← zC];rfl
section
variable {x lo hi:OF}{ls:List d9}{env:T d9}{s:List UInt8}{l h:Nat}
theorem Qm (c:x ls env=.str s)(b:hi ls env=.int .i64 (h:Int))(a:h<=s.length):nT x none (some hi) ls env=some (.str (s.take h)):=by
 show wm (x ls env) (λs=>iR (hi ls env) λh=>bi (Nat.ble 0 h) (bi (Nat.ble h (len' s)) (ob (takeN (Nat.sub h 0) (gZ 0 s)) λr=>some (d9.str r)) none) none)=_;rw [c,Ng,b,nu,jN,show Nat.ble 0 h=true from wu (adC _),K4,show Nat.ble h s.length=true from wu a,Z6,Z6,gJ,
  show Nat.sub h 0=h from rfl,adx,jX _ _ a];rfl
theorem Qn (c:x ls env=.str s)(b:lo ls env=.int .i64 (l:Int))(a:l<=s.length):nT x (some lo) none ls env=some (.str (s.drop l)):=by
 show wm (x ls env) (λs=>iR (lo ls env) λl=>bi (Nat.ble l (len' s)) (bi (Nat.ble (len' s) (len' s)) (ob (takeN (Nat.sub (len' s) l) (gZ l s)) λr=>some (d9.str r)) none) none)=_;rw [c,Ng,b,nu,jN,K4,show Nat.ble l s.length=true from wu a,show Nat.ble s.length s.length=true from wu (aA _),Z6,Z6,gJ,
  show Nat.sub s.length l=s.length-l from rfl,jX _ _ (by simp),adt (by simp)];rfl
theorem YX (d:x ls env=.str s)(c:lo ls env=.int .i64 (l:Int))(a:l<s.length):vI x lo ls env=some (.int .u8 (s[l].toNat:Nat)):=by show wm (x ls env) (λs=>iR (lo ls env) λk=>ob (uw k s) λb=>some (d9.int .u8 b.toNat))=_;rw [d,Ng,c,nu,jN,kZ,aP a];rfl
end
def strs (l:List (List UInt8)):List d9:=l.map d9.str
theorem J3 (l:List (List UInt8)):(strs l).length=l.length:=by simp [strs]
theorem xJ:∀l:List (List UInt8),I6 (strs l)=true
 | []=>rfl
 | _::l=>by show bi true (I6 (strs l)) false=true;rw [xJ l];rfl
theorem IW (a b:List (List UInt8)):strs (a++b)=strs a++strs b:=by simp [strs]
theorem YZ (a b:List Int):ints (a++b)=ints a++ints b:=by simp [ints]
def qH (m:Mem)(rs:Nat)(v:d9)(l:List (List d9)):Prop:=
 (v=.nilSlice∧l=[])∨∃id o,((∃c,v=.slice id (o*rs) l.length c∧l.length<=c)∨v=.sliceU id (o*rs) l.length rs)∧id<m.nx∧
  (l=[]∨∃n rows,m.get id=some (.cells rs n rows)∧o+l.length<=n∧(∀r,r∈l->r.length=rs)∧∀i (h:i<l.length),rows.get (o+i)=some l[i])
section
variable {m m':Mem}{rs:Nat}{v:d9}{l:List (List d9)}
theorem qH.keep (a:qH m rs v l)(b:m.nx<=m'.nx)(h:∀id n rows,id<m.nx->m.get id=some (.cells rs n rows)->(∃o l c,v=.slice id o l c)∨(∃o l e,v=.sliceU id o l e)->m'.get id=m.get id):qH m' rs v l:=by rcases a with a | ⟨id,o,h1,h2,h3⟩;exact .inl a;refine .inr ⟨id,o,h1,nA h2 b,?_⟩;rcases h3 with h3 | ⟨n,rows,h4,h5⟩;exact .inl h3;refine .inr ⟨n,rows,(h id n rows h2 h4 ?_).trans h4,h5⟩;rcases h1 with⟨c,rfl,_⟩ | rfl;exact .inl ⟨_,_,_,rfl⟩;exact .inr ⟨_,_,_,rfl⟩
theorem qH.ext (h:Ext m m')(b:qH m rs v l):qH m' rs v l:=b.keep h.nx λid _ _ a _ _=>h.old id a
theorem qH.cells (h:qH m rs v l):v.cells=[v]:=by rcases h with⟨rfl,rfl⟩ | ⟨id,off,⟨c,rfl,_⟩ | rfl,_⟩<;>rfl
theorem qH.dD (h:qH m rs v l){a:Type}(p:d9->a)(q:a):fD v p q=q:=by rcases h with⟨rfl,rfl⟩ | ⟨id,off,⟨c,rfl,_⟩ | rfl,_⟩<;>rfl
theorem qH.D6 (h:qH m rs v l):Go.AM.D6 v=true:=by rcases h with⟨rfl,rfl⟩ | ⟨id,off,⟨c,rfl,_⟩ | rfl,_⟩<;>rfl
theorem qH.len (h:qH m rs v l):ze v (some (d9.int .i64 0)) (λ_ _ n _=>some (.int .i64 n)) (λ_ _ n _=>some (.int .i64 n))=some (.int .i64 l.length):=by rcases h with⟨rfl,rfl⟩ | ⟨id,off,⟨c,rfl,_⟩ | rfl,_⟩<;>rfl
theorem qH.lenOf (h:qH m rs v l):Go.AM.lenOf v=some l.length:=by rcases h with⟨rfl,rfl⟩ | ⟨id,off,⟨c,rfl,_⟩ | rfl,_⟩<;>rfl
theorem WM {n i rs:Nat}{rows:T (List d9)}{r:List d9}(hi:i<n)(h:rows.get i=some r)(d:r.length=rs){j k:Nat}(b:j<rs)(c:j+k<=rs):YR (some (.cells rs n rows)) (i*rs+j) k=some (.agg ((r.drop j).take k)):=by show aO (some (U7.cells rs n rows)) (λa n rows=>ob (nR a n rows (i*rs+j) k) λl=>some (d9.agg l))=_;rw [cu,uT b hi h d c,I7]
theorem qH.at (h:qH m rs v l){i:Nat}(hi:i<l.length):
  ∃id o,ze v none (λid off len _=>idx len (.int .i64 i) λk=>some (d9.ptr id (off+k*rs))) (λid off len _=>idx len (.int .i64 i) λk=>some (d9.ptr id (off+k*rs)))=some (.ptr id o)∧id<m.nx∧
   (l[i]).length=rs∧(∀j k,j<rs->j+k<=rs->YR (m.get id) (o+j) k=some (.agg (((l[i]).drop j).take k)))∧∀j,j<rs->ld1 (m.get id) (o+j)=(l[i])[j]?:=by
 rcases h with⟨_,rfl⟩ | ⟨id,off,h1,h2,h3⟩;simp at hi;rcases h3 with rfl | ⟨n,a,h4,h5,h7,h6⟩;simp at hi;have b:=h7 l[i] (M7 hi);refine⟨id,off*rs+i*rs,?_,h2,b,λj k d f=>?_,λj d=>?_⟩;rcases h1 with⟨c,rfl,_⟩ | rfl;simp only [zy];rw [V6 _ _ _ hi];simp only [uS];rw [V6 _ _ _ hi];rw [← adX,h4];exact WM (by omega) (h6 i hi) b d f;rw [← adX,h4];show aO (some (U7.cells rs n a)) (λe n a=>cell1 e n a ((off+i)*rs+j))=_;rw [cu,gU d (by omega) (h6 i hi)]
end
def jR (lo rs:Nat)(m:Mem)(v:d9)(l:List (List d9)):Prop:=
 (v=.nilSlice∧l=[])∨∃id,lo<=id∧id<m.nx∧I6 l.flatten=true∧Ey m id rs l∧l≠[]∧(v=.slice id 0 l.length l.length∨v=.sliceU id 0 l.length rs)
section
variable {m m':Mem}{lo rs:Nat}{v:d9}{l:List (List d9)}
theorem jR.nil (lo rs:Nat)(m:Mem):jR lo rs m .nilSlice []:=.inl ⟨rfl,rfl⟩
theorem jR.keep (h:jR lo rs m v l)(a:m.nx<=m'.nx)(b:∀i,lo<=i->i<m.nx->m'.get i=m.get i):jR lo rs m' v l:=by rcases h with h | ⟨id,h1,h2,h3,h4,h5⟩;exact .inl h;exact .inr ⟨id,h1,nA h2 a,h3,h4.same (b id h1 h2),h5⟩
theorem jR.ext (h:jR lo rs m v l)(e:Ext m m'):jR lo rs m' v l:=h.keep e.nx λi _ a=>e.old i a
theorem jR.lt (h:jR lo rs m v l){i o n e:Nat}(a:v=.sliceU i o n e):lo<=i∧i<m.nx:=by rcases h with⟨rfl,_⟩ | ⟨id,h1,h2,_,_,_,rfl | rfl⟩;cases a;cases a;cases a;exact⟨h1,h2⟩
theorem jR.down {a:Nat}(h:jR lo rs m v l)(b:a<=lo):jR a rs m v l:=by rcases h with h | ⟨id,h1,h2⟩;exact .inl h;exact .inr ⟨id,zu b h1,h2⟩
theorem jR.slice (h:jR lo rs m v l):qH m rs v l:=by rcases h with h | ⟨id,h1,h2,h3,h4,_,h5⟩;exact .inl h;obtain⟨p,b,c,t,g,d,e,j,k,f⟩:=h4;refine .inr ⟨id,0,?_,h2,.inr ⟨c,t,d,by simpa using e,b,λi a=>?_⟩⟩;rw [adD];rcases h5 with h5 | h5;exact .inl ⟨_,h5,aA _⟩;exact .inr h5;simp only [S9];exact f i a
theorem Za {n bytes es:Nat}(h:n<=100000)(hb:1<=bytes∧bytes<=1000)(a:1<=es):big n bytes es=true:=by show bi (Nat.ble ((2*n+2048)*bytes) 281474976710656) (bi (Nat.ble 1 es) (Nat.ble 1 bytes) false) false=true;rw [show Nat.ble ((2*n+2048)*bytes) 281474976710656=true from wu (zu (azY (show 2*n+2048<=202048 by omega) hb.2) (by decide)),show Nat.ble 1 bytes=true from wu hb.1,show Nat.ble 1 es=true from wu a];rfl
theorem Qo (e:m.Ok)(a:lo<=m.nx)(hp:0<rs)(c:∀r,r∈l->r.length=rs)(d:I6 l.flatten=true)(b:l≠[]):grown m rs l.length l.flatten=some [⟨.sliceU m.nx 0 l.length rs,m.new (.cells rs l.length (T.ofList l))⟩]∧jR lo rs (m.new (.cells rs l.length (T.ofList l))) (.sliceU m.nx 0 l.length rs) l:=
 ⟨Bc (m:=m) c,.inr ⟨m.nx,a,by simp,d,Nj e hp c,b,.inr rfl⟩⟩
theorem Zb {bytes:Nat}{r:List d9}(f:m.Ok)(N:m.lim<=lo)(w:lo<=m.nx)(hp:0<rs)(h:jR lo rs m v l)(I:r.length=rs)(F:I6 r=true)(hb:l.length+1<=100000)(k:1<=bytes∧bytes<=1000):
  ∃v' m',oz m rs bytes 1 r v=some [⟨v',m'⟩]∧jR m.nx rs m' v' (l ++ [r])∧Fr lo lo m m'∧(∀i,i<m.nx->(∀o n e,v≠.sliceU i o n e)->m'.get i=m.get i):=by
 have B:∀b,∀i,i<m.nx->(∀o n e,v≠.sliceU i o n e)->(m.new b).get i=m.get i:=λb i C _=>by rw [Mem.Q5 f,if_neg (by omega)]
 have q:[r].flatten=r:=by simp
 rcases h with⟨rfl,rfl⟩ | ⟨id,i1,i2,i3,ha,hne,K⟩;obtain⟨g,o⟩:=Qo (lo:=m.nx) (rs:=rs) (l:=[r]) f (aA _) hp (by simpa using I) (by rw [q];exact F) (by simp);refine⟨_,_,?_,by rw [adl];exact o,Fr.new f w _,B _⟩;rw [← g,q];show bi (big 1 bytes rs) _ none=_;rw [Za (by simp) k hp];rfl;have s:I6 (l ++ [r]).flatten=true:=by rw [List.flatten_append,q,jQ,i3,F];rfl
 have y:∀x,x∈l ++ [r]->x.length=rs:=λx V=>by rcases O4.1 V with h | h;exact ha.len x h;rw [ql.1 h];exact I
 obtain⟨p,U,c,t,E,O,P,Z,D,Q⟩:=ha;have z:0<l.length:=acC.2 hne;have J:J8 rs c t (l.length*rs) 0=some l.flatten:=by
  have:=jP (rs:=rs) (n:=c) (rows:=t) U Q P l.length 0 (by simp)
  rwa [adD,adx] at this
 rcases K with rfl | rfl;obtain⟨g,o⟩:=Qo (lo:=m.nx) (rs:=rs) (l:=l ++ [r]) f (aA _) hp y s (by simp);refine⟨_,_,?_,o,Fr.new f w _,B _⟩;rw [← g];show ji m rs bytes 1 r id 0 l.length l.length=_;unfold ji;have R:Nat.ble (Nat.add l.length 1) l.length=false:=by rw [adj];intro e;have:l.length+1<=l.length:=M8 e;omega
 have S:V4 m id 0 (Nat.mul l.length rs)=some l.flatten:=by have e:Nat.mul l.length rs=l.length*rs:=rfl;rw [e];obtain⟨j,M⟩:∃j,l.length*rs=j+1:=⟨l.length*rs-1,by have:=Nat.mul_pos z hp;omega⟩;rw [M];show aO (m.get id) (λL W rows=>J8 L W rows (j+1) 0)=_;rw [O,cu,← M,J]
 rw [R,aJ,show Nat.add l.length 1=(l ++ [r]).length from by simp,Za (by simpa using hb) k hp,Z6,S,I7,U9];simp;have a:(m.set id .dead).Ok:=Mem.Ok.set f i2 _;have G:∀b,Fr lo lo m ((m.set id .dead).new b):=λb=>⟨Mem.Ok.new a _,by simp,by simp,λi C _=>by
  rw [Mem.Q5 a,if_neg (by simp;omega),Mem.U6 f i2,if_neg (by omega)]⟩
 have u:Nat.ble m.lim id=true:=wu (by omega);have A:∃c'',l.length+1<=c''∧T.Ok (t.put l.length r) c'':=by
  by_cases hc:l.length<E;exact⟨E,hc,T.Ok.put D _ _ hc⟩;obtain rfl:E=l.length:=by omega
  exact⟨l.length+1,aA _,T.Ok.push D _⟩
 obtain⟨c'',X,Y⟩:=A;refine⟨.sliceU m.nx 0 (l.length+1) rs,(m.set id .dead).new (.cells rs (l.length+1) (t.put l.length r)),?_,.inr ⟨m.nx,aA _,by simp,s,⟨hp,y,l.length+1,t.put l.length r,c'',?_,by simp,X,Y,λi C=>?_⟩,by simp,.inr (by simp)⟩,G _,λi C K=>?_⟩;show pQ m rs bytes 1 r id 0 l.length rs=_;show bi (Nat.beq rs rs) (bi (big (l.length+1) bytes rs) (bi (Nat.ble m.lim id) (bi (I6 r) (wG (m.get id) _ _) none) none) none) none=_;rw [Za (by simpa using hb) k hp,u,F,O,show Nat.beq rs rs=true from adH rs];show bi (bi (Nat.beq rs rs) (bi (Nat.beq 0 0) (bi (Nat.ble l.length c) (bi (Nat.beq 1 1) (Nat.beq (len' r) rs) false) false) false) false) _ _=_;rw [show Nat.ble l.length c=true from wu P,K4,I,show Nat.beq rs rs=true from adH rs];rfl;rw [Mem.Q5 a];simp;by_cases hil:i=l.length;subst hil;rw [T.Z7 D _ _ (by omega)];simp;have d:i<l.length:=by simp at C;omega
 rw [T.aU D _ _ _ (by omega) (akd hil),Q i d];simp [adP,d];have H:i≠id:=by rintro rfl;exact K _ _ _ rfl
 rw [Mem.Q5 a,if_neg (by simp;omega),Mem.U6 f i2,if_neg H]
theorem aeF {bytes:Nat}{x:d9}{r:List d9}(F:m.Ok)(a:m.lim<=lo)(g:lo<=m.nx)(hp:0<rs)(h:jR lo rs m v l)(w:qH m rs x [r])(u:r.length=rs)(D:I6 r=true)(hb:l.length+1<=100000)(b:1<=bytes∧bytes<=1000):
  ∃v' m',(∀(s y:OF) (cf:H8) (ls:List d9) (env:T d9),s ls env=v->y ls env=x->sQ rs bytes s y cf ls env m=some [⟨v',m'⟩])∧jR m.nx rs m' v' (l ++ [r])∧Fr lo lo m m'∧(∀i,i<m.nx->(∀o n e,v≠.sliceU i o n e)->m'.get i=m.get i):=by
 obtain⟨v',m',z,A,B,C⟩:=Zb F a g hp h u D hb b;refine⟨v',m',λs y cf ls env G H=>?_,A,B,C⟩;have k:bS m rs 1 x=some r:=by
  rcases w with⟨_,h⟩ | ⟨id,o,q1,q2,q3⟩;cases h;rcases q3 with h | ⟨n,rows,e1,e2,e3,e4⟩;cases h;have p:V4 m id (o*rs) (Nat.mul 1 rs)=some r:=by
   have e:Nat.mul 1 rs=1*rs:=rfl;have f:=CS (rs:=rs) (n:=n) (rows:=rows) (i:=o) (by simp at e2;omega) (by simpa using e4 0 (by simp)) u;obtain⟨j,E⟩:∃j,1*rs=j+1:=⟨rs-1,by omega⟩;have d:rs=j+1:=by omega
   rw [e,E];show aO (m.get id) (λt I rows=>J8 t I rows (j+1) (o*rs))=_;rw [e1,cu,← d];have:=f rs 0 (by omega)
   rwa [adw,adx] at this
  rcases q1 with⟨c,rfl,_⟩ | rfl<;>exact p
 show ob (AM.lenOf (y ls env)) (λn=>ob (bS m rs n (y ls env)) λq=>oz m rs bytes n q (s ls env))=_;rw [H,G,w.lenOf,I7];show ob (bS m rs 1 x) _=_;rw [k,I7];exact z
end
open Go Go.RowKit
section
variable {P:Program}{G:Mem}{ι:K7}{m:Mem}{w w':World}
theorem Bd (h:RM P G ι m w.heap)(hb:Below w.heap.size w w'):Step P G ι m w ι m w':=by refine⟨⟨h.ok,λi x a=>?_,λi x o a d=>?_,h.glim,h.limn,h.gle,h.base,h.ghas,h.glob,h.spot,h.OV λk p _=>hb.block k p⟩,λ_ _=>rfl,λ_ h=>h,aA _,rfl,λ_ _=>rfl,hb.size,λb f _=>hb.block b f,λ_ h=>.inl h,hb.os,hb.output,hb.tape⟩;exact (h.blk i x a).mono (n:=m.nm ι) (λ_ _=>rfl) (Mem.bA (λ_ h=>h) λ_ _=>rfl) λd=>hb.block _ (fH (h.blk i x a) d);have j:=h.own i x o a d;refine⟨j.alone,λc e l g=>?_⟩;rw [hb.block _ (fH (h.blk i x a) d)] at g;exact j.free c e l g
theorem Zc (h:RM P G ι m w.heap)(hb:Below w.heap.size w w')(b:U7)(l:Loc)(A:jd b=false)(z:w.heap.size<=l.b)
  (n:fG P (ι.upd m.nx l) ((m.new b).nm (ι.upd m.nx l)) w'.heap l b)
  (f:aC b=true->∀c e fz,w'.heap[l.b]?=some (.cells c e fz)->∀k,k<c.size->¬ (fz.1<=k∧k<fz.2)) (g:aC b=true->l.spot=none):
  Step P G ι m w (ι.upd m.nx l) (m.new b) w':=by
 have t:=Bd h hb;have B:=t.trans (Iz t.rm);have d:=Mem.Q5 h.ok .void;have a:(m.new .void).get m.nx=some .void:=by rw [d,if_pos rfl]
 have C:=B.rename (ι2:=ι.upd m.nx l) λi ⟨x,hx,hxv⟩=>ι.upd_ne l λe=>by subst e;rw [a] at hx;cases hx;cases hxv
 have e:(m.new .void).set m.nx b=m.new b:=Mem.UR h.ok .void b;have u:=C.add (id:=m.nx) (b:=b) a h.limn ⟨by rw [e,ι.V7];exact n,A,λo j y r s p=>?_,λo c v fz q=>?_,λo=>by rw [ι.V7];exact g o⟩ (λ_=>by rw [ι.V7];exact z);rw [e] at u;exact u;rw [d,if_neg r] at s;rw [ι.V7,ι.upd_ne l r];have:=fH (h.blk j y s) p;omega;rw [ι.V7] at q;exact f o c v fz q
end
section
variable {P:Program}{G:Mem}
theorem tZ {f:FuncId}{args:List d9}{v:d9}(a:zX (layAll [] G).nx ⟨v,K9 G []⟩=some ⟨v,[]⟩)(c:∀n:Nm,v.lt n)(h:∀ι ι',o8 ι v=o8 ι' v)
  (g:∀(ι:K7) (w:World),RM P G ι (K9 G []) w.heap->Calls P f (A8 ι args).toArray w λe w'=>e=.returned (o8 ι v)∧Below w.heap.size w w'):jM P G f args [] ⟨v,[]⟩:=by
 intro ι w d b;refine callsIn_wide.2 ((g ι w d).mono ?_);rintro e w' ⟨rfl,hb⟩;exact⟨ι,⟨v,K9 G []⟩,Bd d hb,c _,rfl,a⟩
theorem Nk {f:FuncId}{args:List d9}{v:d9}{nb:NB}(a:zX (layAll [] G).nx ⟨v,(K9 G []).new (dH nb)⟩=some ⟨v,[nb]⟩)
  (i:∀(ι:K7) (w:World),RM P G ι (K9 G []) w.heap->Calls P f (A8 ι args).toArray w λe w'=>∃l:Loc,e=.returned (o8 (ι.upd G.nx l) v)∧Below w.heap.size w w'∧w.heap.size<=l.b∧
   v.lt (((K9 G []).new (dH nb)).nm (ι.upd G.nx l))∧fG P (ι.upd G.nx l) (((K9 G []).new (dH nb)).nm (ι.upd G.nx l)) w'.heap l (dH nb)∧
   (aC (dH nb)=true->(∀c e fz,w'.heap[l.b]?=some (.cells c e fz)->∀k,k<c.size->¬ (fz.1<=k∧k<fz.2))∧l.spot=none)):jM P G f args [] ⟨v,[nb]⟩:=by
 intro ι w h d;refine callsIn_wide.2 ((i ι w h).mono ?_);rintro e w' ⟨l,rfl,hb,hA,hlt,hblk,hfs⟩;have j:(K9 G []).nx=G.nx:=rfl;exact⟨ι.upd G.nx l,⟨v,(K9 G []).new (dH nb)⟩,Zc h hb (dH nb) l (AY nb) hA hblk (λg=>(hfs g).1) (λg=>(hfs g).2),hlt,rfl,a⟩
end
end Go.AM
namespace Go.AM
open Go Go.RowKit
noncomputable section
theorem Sz (rs:Nat)(rows:List (List d9)):zM (.cells rs (len' rows) (T.ofList rows))=some (.cells rs rows):=by show ob ((T.ofList rows).slice (len' rows) 0) (λl=>some (NB.cells rs l))=_;rw [K4,CG];rfl
theorem SA (m:Mem)(lo n:Nat)(a:List (Nat×NB)):reach m lo (n+1) [] a=some a.reverse:=rfl
theorem Ez {m:Mem}{lo i:Nat}{b:U7}{nb:NB}(h:m.get i=some b)(hb:zM b=some nb)(hi:OL lo nb=[])(n:Nat):reach m lo (n+2) [i] []=some [(i,nb)]:=by show bi (Kv i []) (reach m lo (n+1) [] []) (ob (m.get i) λb=>ob (zM b) λnb=>reach m lo (n+1) (OL lo nb ++ []) [(i,nb)])=_;rw [h,I7,hb,I7,hi];rfl
theorem IX (lo:Nat):∀ws:List (List UInt8),OL lo (.cells 1 (ws.map λw=>[d9.str w]))=[]
 | []=>rfl
 | w::ws=>by show qE lo [d9.str w]++OL lo (.cells 1 (ws.map λw=>[d9.str w]))=[];rw [IX lo ws];rfl
theorem xK (r:Nat->Option Nat):∀ws:List (List UInt8),lY r (ws.map λw=>[d9.str w])=some (ws.map λw=>[d9.str w])
 | []=>rfl
 | w::ws=>by show ob (nK r [d9.str w]) (λx=>ob (lY r (ws.map λw=>[d9.str w])) λy=>some (x::y))=_;rw [xK r ws];rfl
theorem Lg (lo:Nat):rU lo [lo] lo=some lo:=by show bi (Nat.ble lo lo) (bi (Nat.beq lo lo) (some lo) none) _=_;rw [show Nat.ble lo lo=true from wu (aA _),show Nat.beq lo lo=true from adH lo];rfl
section
variable {G:Mem}
theorem Zd (b:T.Ok G.t G.nx)(ws:List (List UInt8))(n c:Nat):zX (layAll [] G).nx ⟨.slice G.nx 0 n c,(K9 G []).new (dH (.cells 1 (ws.map λw=>[d9.str w])))⟩=some ⟨.slice G.nx 0 n c,[.cells 1 (ws.map λw=>[d9.str w])]⟩:=by
 have e:((K9 G []).new (dH (.cells 1 (ws.map λw=>[d9.str w])))).get G.nx=some (.cells 1 (len' (ws.map λw=>[d9.str w])) (T.ofList (ws.map λw=>[d9.str w]))):=by rw [Mem.Q5 (m:=K9 G []) b];exact if_pos rfl
 have g:=Ez (lo:=G.nx) e (Sz 1 _) (IX G.nx ws) 99998;have f:qE G.nx [d9.slice G.nx 0 n c]=[G.nx]:=by show bi (Nat.ble G.nx G.nx) [G.nx] [] ++ []=_;rw [show Nat.ble G.nx G.nx=true from wu (aA _)];rfl
 have d:jw G.nx [d9.slice G.nx 0 n c] ((K9 G []).new (dH (.cells 1 (ws.map λw=>[d9.str w]))))=some ⟨[G.nx],[.slice G.nx 0 n c],[.cells 1 (ws.map λw=>[d9.str w])]⟩:=by show ob (reach _ G.nx (99998+2) (qE G.nx _) []) _=_;rw [f,g];show ob (ob (ob (rU G.nx [G.nx] G.nx) λj=>some (d9.slice j 0 n c)) λx=>ob (some []) λy=>some (x::y)) (λh=>ob (ob (ob (lY (rU G.nx [G.nx]) (ws.map λw=>[d9.str w])) λx=>some (NB.cells 1 x)) λx=>ob (some []) λy=>some (x::y)) λa=>some (⟨[G.nx],h,a⟩:CO))=_;rw [Lg,xK];rfl
 show ob (jw G.nx [d9.slice G.nx 0 n c] _) _=_;rw [d];rfl
theorem Qp (b:T.Ok G.t G.nx)(k:Int)(t:TypeId):zX (layAll [] G).nx ⟨.tuple [.int .i64 k,.iface t (.ptr G.nx 0)],(K9 G []).new .dead⟩=some ⟨.tuple [.int .i64 k,.iface t (.ptr G.nx 0)],[.dead]⟩:=by
 have d:((K9 G []).new .dead).get G.nx=some .dead:=by rw [Mem.Q5 (m:=K9 G []) b];exact if_pos rfl
 have f:=Ez (lo:=G.nx) d (nb:=.dead) rfl rfl 99998;have e:qE G.nx [d9.tuple [.int .i64 k,.iface t (.ptr G.nx 0)]]=[G.nx]:=by show ([]++(bi (Nat.ble G.nx G.nx) [G.nx] [] ++ [])) ++ []=_;rw [show Nat.ble G.nx G.nx=true from wu (aA _)];rfl
 have c:jw G.nx [d9.tuple [.int .i64 k,.iface t (.ptr G.nx 0)]] ((K9 G []).new .dead)=some ⟨[G.nx],[.tuple [.int .i64 k,.iface t (.ptr G.nx 0)]],[.dead]⟩:=by show ob (reach _ G.nx (99998+2) (qE G.nx _) []) _=_;rw [e,f];show ob (ob (ob (ob (some (d9.int .i64 k)) λx=>ob (ob (ob (ob (rU G.nx [G.nx] G.nx) λj=>some (d9.ptr j 0)) λx=>some (d9.iface t x)) λx=>ob (some []) λy=>some (x::y)) λy=>some (x::y)) λx=>some (d9.tuple x)) λx=>ob (some []) λy=>some (x::y)) (λg=>ob (some [NB.dead]) λa=>some (⟨[G.nx],g,a⟩:CO))=_;rw [Lg];rfl
 show ob (jw G.nx _ _) _=_;rw [c];rfl
end
theorem uY {lo:Nat}{v:d9}(m:Mem)(b:qE lo [v]=[])(c:∀r,nK r [v]=some [v]):jw lo [v] m=some ⟨[],[v],[]⟩:=by show ob (reach m lo (99999+1) (qE lo [v]) []) _=_;rw [b,SA];show ob (nK (rU lo []) [v]) (λd=>ob (some []) λa=>some (⟨[],d,a⟩:CO))=_;rw [c];rfl
theorem rz {K:Known}{cf:H8}{b:Nat}{f:FuncId}{sf:K3}{args:List d9}{m:Mem}{c:CO}{a:DI}(g:jw K.base.nx args m=some c)(d:K.sum f c.vs c.bs=some a):
  wK K cf b f sf args m=ob (gG (gI K.base.nx c.ids m.nx) a.v) λv=>ob (vK (gI K.base.nx c.ids m.nx) a.bs) λbs=>one v (layAll bs m):=by
 show ob (jw K.base.nx args m) (λc=>ob (Fg K cf b f sf c.vs c.bs) λa=>ob (gG (gI K.base.nx c.ids m.nx) a.v) λv=>ob (vK (gI K.base.nx c.ids m.nx) a.bs) λbs=>one v (layAll bs m))=_;rw [g,I7];have e:Fg K cf b f sf c.vs c.bs=some a:=by unfold Fg;rw [d]
 rw [e,I7]
theorem IY (g next:Nat):gI g [] next g=some next:=by show bi (Nat.blt g g) (some g) (bi (Nat.blt (g-g) 0) (uw (g-g) []) (some (next+(g-g-0))))=_;rw [show Nat.blt g g=false from adj.2 λe=>absurd (O6.mp e) (amQ _),Nat.sub_self];rfl
open Go
def fZ (sep:List UInt8)(l:List (List UInt8)):List UInt8:=List.rec [] (λs t ih=>List.rec s (λ_ _ _=>bU s (bU sep ih)) t) l
def uZ (l:List (List d9)):Option (List (List UInt8)):=List.rec (some []) (λr _ ih=>match r with
 | [.str s]=>ob ih λt=>some (s::t)
 | _=>none) l
def zO (c:UInt8)(s:List UInt8):List (List UInt8):=
 List.rec [[]] (λb _ ih=>bi (Nat.beq b.toNat c.toNat) ([]::ih) (List.rec [[b]] (λh t _=>(b::h)::t) ih)) s
def mU (c:UInt8)(s:List UInt8):Int:=List.rec (Int.negSucc 0) (λb _ ih=>bi (Nat.beq b.toNat c.toNat) 0 (bi (qK ih (Int.negSucc 0)) (Int.negSucc 0) (ih+1))) s
def lH (c:UInt8)(s:List UInt8):Nat:=List.rec 0 (λb _ ih=>bi (Nat.beq b.toNat c.toNat) (Nat.succ ih) ih) s
def aeG (fi fn fj nx:Nat)(f:FuncId)(args:List d9)(bs:List NB):Option DI:=
 bi (Nat.beq f fi) (match args,bs with
  | [.str s,.str [c]],[]=>bi (Nat.blt (len' s) 1000000) (some ⟨.int .i64 (mU c s),[]⟩) none
  | _,_=>none)
 (bi (Nat.beq f fn) (match args,bs with
  | [.str s,.str [c]],[]=>bi (Nat.blt (len' s) 1000000) (some ⟨.int .i64 (.ofNat (lH c s)),[]⟩) none
  | _,_=>none)
 (bi (Nat.beq f fj) (match args,bs with
  | [v,.str sep],[.cells 1 rows]=>ze v none
    (λid off n c=>bi (Nat.beq id nx) (bi (Nat.ble n c) (bi (Nat.blt n 1000000) (ob (takeN n (gZ off rows)) λl=>ob (uZ l) λws=>bi (Nat.blt (len' (fZ sep ws)) 1000000) (some ⟨.str (fZ sep ws),[]⟩) none) none) none) none)
    (λid off n _=>bi (Nat.beq id nx) (bi (Nat.blt n 1000000) (ob (takeN n (gZ off rows)) λl=>ob (uZ l) λws=>bi (Nat.blt (len' (fZ sep ws)) 1000000) (some ⟨.str (fZ sep ws),[]⟩) none) none) none)
  | [.nilSlice,.str _],[]=>some ⟨.str [],[]⟩
  | _,_=>none) none))
theorem CV {α:Type}(t:T α):∀(l:List α) (i:Nat),(∀j,j<l.length->t.get (i+j)=l[j]?)->t.slice l.length i=some l
 | [],i,h=>rfl
 | x::l,i,h=>by
  rw [adk,T.Ay];have h0:=h 0 (by simp);rw [adw] at h0;rw [h0,azB,I7,CV t l (i+1) (λj hj=>by
   have:=h (j+1) (by simp;omega);rw [show i+1+j=i+(j+1) from by omega,this,adJ])]
  rfl
def jD (lo:Nat)(m:Mem)(v:d9)(l:List (List UInt8)):Prop:=
 (v=.nilSlice∧l=[])∨∃id t c,lo<=id∧id<m.nx∧l≠[]∧v=.sliceU id 0 l.length 1∧m.get id=some (.cells 1 l.length t)∧T.Ok t c∧l.length<=c∧∀i (h:i<l.length),t.get i=some [.str l[i]]
section
variable {lo:Nat}{m m':Mem}{v:d9}{l:List (List UInt8)}
theorem jD.keep (h:jD lo m v l)(a:m.nx<=m'.nx)(b:∀i,lo<=i->i<m.nx->m'.get i=m.get i):jD lo m' v l:=by rcases h with h | ⟨id,t,c,h1,h2,h3,h4,h5,h6⟩;exact .inl h;exact .inr ⟨id,t,c,h1,nA h2 a,h3,h4,(b id h1 h2).trans h5,h6⟩
theorem jD.ext (h:jD lo m v l)(e:Ext m m'):jD lo m' v l:=h.keep e.nx λi _ a=>e.old i a
theorem jD.cells (h:jD lo m v l):v.cells=[v]:=by rcases h with⟨rfl,_⟩ | ⟨id,t,c,_,_,_,rfl,_⟩<;>rfl
theorem jD.D6 (h:jD lo m v l):Go.AM.D6 v=true:=by rcases h with⟨rfl,_⟩ | ⟨id,t,c,_,_,_,rfl,_⟩<;>rfl
theorem jD.dD (h:jD lo m v l){a:Type}(p:d9->a)(q:a):fD v p q=q:=by rcases h with⟨rfl,_⟩ | ⟨id,t,c,_,_,_,rfl,_⟩<;>rfl
theorem IZ:∀l:List (List UInt8),uZ (l.map λw=>[d9.str w])=some l
 | []=>rfl
 | w::l=>by show ob (uZ (l.map λw=>[d9.str w])) (λt=>some (w::t))=_;rw [IZ l];rfl
end
section
variable (cf:H8)(fu:Nat)(ls:List d9)(env:T d9)(m:Mem)(k:List Mk)
@[simp] theorem amJ (x:OF):mE x cf ls env m=adW (x ls env) m:=id rfl
@[simp] theorem ak6 (t:TypeId)(v:d9):adW (.iface t v) m=some [⟨.dD (.iface t v),m⟩]:=id rfl
@[simp] theorem ak7 (x:d9):mG k ⟨env,m,some x,[]⟩=some [⟨.ret,env,m,k,some x⟩]:=id rfl
@[simp] theorem ak8 (x:Mk):mG k ⟨env,m,none,[x]⟩=some [⟨.normal,env,m,x::k,none⟩]:=id rfl
@[simp] theorem amK (a:kX)(rs:List pF)(x:d9):leave a rs ⟨.ret,env,m,[],some x⟩=some [⟨.dD x,m⟩]:=id rfl
@[simp] theorem ah2:fC .nilIface .nilIface=some true:=id rfl
@[simp] theorem aeH (t:TypeId)(v:d9):fC (.iface t v) .nilIface=some false:=id rfl
@[simp] theorem amL (r:RC):nX r cf fu none env m k=bnd (r cf [] env m) (mG k):=id rfl
@[simp] theorem anO (g:OF)(args:List OF):sS g args cf ls env m=Ox (g ls env) λfn a b=>some [⟨env,m,none,[.d (.func fn a b) (evs args ls env)]⟩]:=id rfl
def behind (rs:List pF)(env:T d9)(r:Mem×Option d9):oF:=Au rs env r.2 r.1
theorem UW (c:kX)(rs:List pF)(f:FuncId)(a b args:List d9)(pv:Option d9):leave c rs ⟨.ret,env,m,[.d (.func (.func f) a b) args],pv⟩=bnd (c f (a++(args++b)) pv m) (behind rs env):=by show bnd (c f (bU a (bU args b)) pv m) (behind rs env)=_;rw [U9,U9]
@[simp] theorem amM (rs:List pF):behind rs env (m,none)=ob (results rs env m) λl=>some [⟨result l,m⟩]:=id rfl
def ah3 (b:ay)(r:Ry):Option (List Ry):=match r.o.x with
 | .normal=>match r.o.marks with
  | []=>zY b cf fu r.o.env r.o.m r.md
  | _=>none
 | _=>some [r]
variable (md:Option d9)
theorem UY (a b:ay):zY (.seq a b) cf fu env m md=bnd (zY a cf fu env m md) (ah3 cf fu b):=rfl
theorem Qq (c:V9)(a b:ay):zY (.cond c a b) cf fu env m md=pI (H9 c [] env) λt=>bi t (zY a cf fu env m md) (zY b cf fu env m md):=rfl
def ah4 (r:EM×Option d9):Option (List Ry):=some [⟨⟨.normal,r.1.env,r.1.m,[],none⟩,r.2⟩]
def Nl (md:Option d9)(o:Out):Option (List Ry):=some [⟨o,md⟩]
theorem Qr {ops:List Inst}(h:Hg ops=true):zY (.reg ops) cf fu env m md=bnd (wJ ops cf [] env m md) ah4:=by simp only [zY,h];rfl
theorem xL {ops:List Inst}(h:Hg ops=false):zY (.reg ops) cf fu env m md=bnd (wI (.reg ops) cf fu none env m []) (Nl md):=by simp only [zY,h];rfl
theorem Qs:zY .skip cf fu env m md=bnd (wI .skip cf fu none env m []) (Nl md):=rfl
@[simp] theorem anP (b:ay):ah3 cf fu b ⟨⟨.normal,env,m,[],none⟩,md⟩=zY b cf fu env m md:=id rfl
@[simp] theorem azy (o:Out):Nl md o=some [⟨o,md⟩]:=id rfl
@[simp] theorem anQ (e:EM):ah4 (e,md)=some [⟨⟨.normal,e.env,e.m,[],none⟩,md⟩]:=id rfl
theorem Lh:Rz [] ⟨⟨.normal,env,m,[],none⟩,md⟩=some [(m,md)]:=rfl
end
def SE (P:Program)(slots:List Nat)(ops:Array Oper):Option ay:=
 match kY P slots ops [] (canon (Hl ops) (masks ops.toList) ops.size) with
 | none=>none
 | some insts=>some (.dreg (Mt insts) (numbered (masks ops.toList) ((canon (Hl ops) (masks ops.toList) ops.size).zip insts) [] 0))
theorem WO {P:Program}{a:List Nat}{ops:Array Oper}{c:ay}(h:Fh P a ops=some c):SE P a ops=some c:=by unfold Fh at h;unfold SE;split at h;cases h;rename_i b d;rw [d];split at h;exact h;cases h
def kD (P:Program)(slots:List Nat):Code->Option ay
 | .skip=>some .skip
 | .region _ ops false=>match kY P slots ops [] (List.range ops.size) with
  | some l=>some (.reg l)
  | none=>none
 | .region _ ops true=>SE P slots ops
 | .seq a b=>match kD P slots a,kD P slots b with
  | some x,some y=>some (.seq x y)
  | _,_=>none
 | .cond c a b=>match V5 P slots [] c,kD P slots a,kD P slots b with
  | some z,some x,some y=>some (.cond z x y)
  | _,_,_=>none
 | .block id a=>match kD P slots a with
  | some x=>some (.block id x)
  | none=>none
 | .loop a=>match kD P slots a with
  | some x=>some (.loop x)
  | none=>none
 | .exit id=>some (.exit id)
 | .ret=>some .ret
 | .rangeFunc f ps a b=>match V5 P slots [] f,kD P slots a,kD P slots b with
  | some z,some x,some y=>some (.rangeFunc z (ps.toList.map λt=>idxOf t slots 0) x y)
  | _,_,_=>none
 | _=>none
theorem jE {P:Program}{slots:List Nat}:∀(k:Code) {c:ay},X9 P slots k=some c->kD P slots k=some c
 | .skip,_,h=>h
 | .region _ _ false,_,h=>h
 | .region _ _ true,_,h=>WO h
 | .seq a b,c,h=>by unfold X9 at h;split at h;rename_i x y hx hy;unfold kD;rw [jE a hx,jE b hy];exact h;cases h
 | .cond z a b,c,h=>by unfold X9 at h;split at h;rename_i w x y hw hx hy;unfold kD;rw [hw,jE a hx,jE b hy];exact h;cases h
 | .block _ a,c,h=>by unfold X9 at h;split at h;rename_i x hx;unfold kD;rw [jE a hx];exact h;cases h
 | .loop a,c,h=>by unfold X9 at h;split at h;rename_i x hx;unfold kD;rw [jE a hx];exact h;cases h
 | .rangeFunc z _ a b,c,h=>by unfold X9 at h;split at h;rename_i w x y hw hx hy;unfold kD;rw [hw,jE a hx,jE b hy];exact h;cases h
 | .exit _,_,h=>h
 | .ret,_,h=>h
 | .scope _,_,h=>by cases h
 | .label _,_,h=>by cases h
 | .goto _,_,h=>by cases h
 | .refuse _,_,h=>by cases h
def Ze (P:Program)(slots:List Nat)(f:FuncId):Option AFn:=
 match P.funcs[f]? with
 | none=>none
 | some fn=>match fn.body with
  | none=>none
  | some c=>match kD P slots c,Gj P slots fn.results.toList with
   | some b,some r=>some ⟨fn.params.size+fn.nfree,(List.range (fn.params.size+fn.nfree)).map λt=>idxOf t slots 0,slots.length,r,b⟩
   | _,_=>none
theorem aeI {P:Program}{d:List Nat}{f:FuncId}{a:AFn}(h:XE P d f=some a):Ze P d f=some a:=by unfold XE at h;unfold Ze;split at h;cases h;rename_i k i;rw [i];split at h;cases h;rename_i c g;simp only [g];split at h;rename_i b r e j;rw [jE _ e,j];split at h;exact h;cases h;cases h
def cT (P:Program)(slots:List Nat)(pure rc:Bool)(f:FuncId):K3:=Sr pure rc ((Ze P slots f).getD ⟨0,[],0,[],.skip⟩)
theorem UZ {P:Program}{b:List Nat}{f:FuncId}{c d:Bool}(h:(XE P b f).isSome=true):qG P f (cT P b c d f):=by
 obtain⟨a,e⟩:=Option.isSome_iff_exists.1 h;have:cT P b c d f=Sr c d a:=by unfold cT;rw [aeI e];rfl
 rw [this];exact UO e c d
theorem EA (b c:UInt8):Nat.beq b.toNat c.toNat=decide (b=c):=by
 by_cases h:b=c;subst h;rw [decide_eq_true rfl];exact adH _;rw [decide_eq_false h];cases hb:Nat.beq b.toNat c.toNat with
 | false=>rfl
 | true=>exact absurd (azW.1 (rW hb)) h
theorem oW (c b:UInt8)(l:List UInt8):zO c (b::l)=bi (Nat.beq b.toNat c.toNat) ([]::zO c l) (List.rec [[b]] (λh t _=>(b::h)::t) (zO c l)):=rfl
theorem Nn (c:UInt8):∀s,∃h t,zO c s=h::t
 | []=>⟨_,_,rfl⟩
 | b::l=>by obtain⟨h,t,e⟩:=Nn c l;rw [oW,e];cases Nat.beq b.toNat c.toNat;exact⟨_,_,rfl⟩;exact⟨_,_,rfl⟩
section
variable {P:Program}{G:Mem}
theorem aeJ (n:Nat)(s:List UInt8)(m:Mem):zX n ⟨.str s,m⟩=some ⟨.str s,[]⟩:=rfl
theorem Li (c:UInt8):∀s:List UInt8,mU c s=Lib.indexByte s c
 | []=>rfl
 | b::l=>by show bi (Nat.beq b.toNat c.toNat) 0 (bi (qK (mU c l) (Int.negSucc 0)) (Int.negSucc 0) (mU c l+1))=_;rw [EA,Li c l,lu];rw [show Lib.indexByte (b::l) c=if b==c then 0 else if Lib.indexByte l c == -1 then -1 else Lib.indexByte l c+1 from rfl];by_cases h:b=c;rw [decide_eq_true h,if_pos (beq_iff_eq.2 h)];rfl;rw [decide_eq_false h,if_neg (by simpa using h)];show bi (Lib.indexByte l c == -1) (-1) (Lib.indexByte l c+1)=_;cases Lib.indexByte l c == -1<;>rfl
theorem Lj (c:UInt8):∀s:List UInt8,lH c s=Lib.countByte s c
 | []=>rfl
 | b::l=>by show bi (Nat.beq b.toNat c.toNat) (Nat.succ (lH c l)) (lH c l)=_;rw [EA,Lj c l];unfold Lib.countByte;rw [List.count_cons];by_cases h:b=c;rw [decide_eq_true h,if_pos (by simpa using h)];rfl;rw [decide_eq_false h,if_neg (by simpa using h)];rfl
theorem WQ {f:FuncId}(a:∀(s:ByteArray)(c:UInt8)(w:World),Calls P f #[.string s,.string ⟨#[c]⟩] w λe w'=>e=.returned (.int .i64 (Lib.indexByte s.data.toList c))∧w'=w)
  (s:List UInt8) (c:UInt8):jM P G f [.str s,.str [c]] [] ⟨.int .i64 (mU c s),[]⟩:=
 tZ rfl (λ_=>trivial) (λ_ _=>by simp [o8]) λb w _=>by refine ajr (a ⟨s.toArray⟩ c w) ?_;rintro e w' ⟨rfl,rfl⟩;exact⟨by simp [o8,Li],Below.refl _ _⟩
theorem WR {f:FuncId}(a:∀(s:ByteArray)(c:UInt8)(w:World),Calls P f #[.string s,.string ⟨#[c]⟩] w λe w'=>e=.returned (.int .i64 (Lib.countByte s.data.toList c))∧w'=w)
  (s:List UInt8) (c:UInt8):jM P G f [.str s,.str [c]] [] ⟨.int .i64 (.ofNat (lH c s)),[]⟩:=
 tZ rfl (λ_=>trivial) (λ_ _=>by simp [o8]) λb w _=>by refine ajr (a ⟨s.toArray⟩ c w) ?_;rintro e w' ⟨rfl,rfl⟩;exact⟨by simp [o8,Lj],Below.refl _ _⟩
theorem Ja (sep:List UInt8):∀ws,fZ sep ws=Lib.join ws sep
 | []=>rfl
 | [x]=>(Lib.join_one x sep).symm
 | x::y::r=>by have ih:=Ja sep (y::r);have e:fZ sep (x::y::r)=bU x (bU sep (fZ sep (y::r))):=rfl;rw [e,ih,U9,U9,Lib.join_cons,Lib.join_cons];simp [Lib.joinTail]
theorem FP:∀{l:List (List d9)} {ws:List (List UInt8)},uZ l=some ws->l=ws.map λw=>[d9.str w]
 | [],ws,h=>by have h:some ([]:List (List UInt8))=some ws:=h;cases h;rfl
 | r::l,ws,h=>by
  match r,h with
  | [.str s],h=>have h:ob (uZ l) (λt=>some (s::t))=some ws:=h;obtain⟨t,h1,h2⟩:=D7 h;cases h2;rw [FP h1];rfl
theorem SF {α:Type}(n:Nat):∀(l:List α) {r:List α},takeN n l=some r->r=l.take n∧n<=l.length:=by
 intro l r h;by_cases a:n<=l.length;rw [jX n l a] at h;cases h;exact⟨rfl,a⟩;exfalso;revert l r;induction n with
 | zero=>intro l r _ a;exact a (adC _)
 | succ n ih=>
  intro l r h a;cases l with
  | nil=>cases h
  | cons x l=>have h:ob (takeN n l) (λt=>some (x::t))=some r:=h;obtain⟨t,b,_⟩:=D7 h;exact ih l b (by simp at a;omega)
theorem Zf {f:FuncId}(hG:T.Ok G.t G.nx)
  (X:∀(a:Option Addr) (c:Nat) (d:ByteArray) (w:World),Calls P f #[.slice a 0 c,.string d] w λe w'=>e=.returned (.string ⟨#[]⟩)∧w'=w)
  (Y:∀(bk o c:Nat) (x d:ByteArray) (w:World),w.cell? ⟨bk,o,none⟩=some (.string x)->Calls P f #[.slice (some ⟨bk,o,none⟩) 1 c,.string d] w λe w'=>e=.returned (.string x)∧w'=w)
  (Z:∀(bk o c:Nat) (xs:List ByteArray) (d:ByteArray) (w:World),(∀(j:Nat) x,xs[j]?=some x->w.cell? ⟨bk,o+j,none⟩=some (.string x))->bk<w.heap.size->2<=xs.length->xs.length<=140737488355328->xs.length<=c->
   (Lib.join (xs.map (·.data.toList)) d.data.toList).length<=140737488355328->Calls P f #[.slice (some ⟨bk,o,none⟩) xs.length c,.string d] w λe w'=>e=.returned (.string ⟨(Lib.join (xs.map (·.data.toList)) d.data.toList).toArray⟩)∧Below w.heap.size w w')
  {v:d9} {off n:Nat} (hv:(∃c,v=.slice G.nx off n c∧n<=c)∨∃es,v=.sliceU G.nx off n es) {rows l:List (List d9)} {ws:List (List UInt8)} {d:List UInt8} (hn:n<1000000)
  (U:takeN n (gZ off rows)=some l) (hw:uZ l=some ws) (A:(fZ d ws).length<1000000):jM P G f [v,.str d] [.cells 1 rows] ⟨.str (fZ d ws),[]⟩:=by
 intro i w O C;rw [gJ] at U;obtain⟨E,a0⟩:=SF n _ U;have F:=FP hw;have h:ws.length=n:=by have:=congrArg List.length F;rw [E,akY,adN] at this;omega
 have S:(K9 G [.cells 1 rows]).get G.nx=some (.cells 1 (len' rows) (T.ofList rows)):=by show (G.new (dH (.cells 1 rows))).get G.nx=_;rw [Mem.Q5 (m:=G) hG];exact if_pos rfl
 have q:=O.spot G.nx _ S rfl;obtain⟨c,e,fz,Q,h1,_,hr⟩:=O.blk G.nx _ S;have g:∀j (x:List UInt8),ws[j]?=some x->w.cell? ⟨(i G.nx).b,(i G.nx).base+off+j,none⟩=some (.string ⟨x.toArray⟩):=λj x J=>by
  have hj:j<n:=by rw [← h];exact (eP.1 J).1
  have B:rows[off+j]?=some [d9.str x]:=by
   have H:l[j]?=some [d9.str x]:=by rw [F,adf,J];rfl
   rw [E,adT,if_pos hj,adQ] at H;exact H
  obtain⟨a1,W,q2,q3,q4⟩:=hr (off+j) (by rw [K4];exact (eP.1 B).1);rw [T.aV,B] at W;cases W;have:=q4 0 (by omega);rw [aeN,adw] at this;have I:c[(i G.nx).base+off+j]?=some (.string ⟨x.toArray⟩):=by rw [ada,this];simp [o8]
  simp [World.cell?,Q,I]
 have D:(i G.nx).b<w.heap.size:=(L6.1 Q).1;have k:∀(x:ByteArray) (w':World),x=⟨(fZ d ws).toArray⟩->Below w.heap.size w w'->∃ι' r,Step P G i (K9 G [.cells 1 rows]) w ι' r.m w'∧r.v.lt (r.m.nm ι')∧Ending.returned (.string x)=.returned (o8 ι' r.v)∧
   zX (layAll [.cells 1 rows] G).nx r=some ⟨.str (fZ d ws),[]⟩:=λx w' J K=>
  ⟨i,⟨.str (fZ d ws),K9 G [.cells 1 rows]⟩,Bd O K,trivial,by rw [J];simp [o8],rfl⟩
 have L:∃cap,n<=cap∧o8 i v=.slice (some ⟨(i G.nx).b,(i G.nx).base+off,none⟩) n cap:=by rcases hv with⟨cap,rfl,p⟩ | ⟨es,rfl⟩;exact⟨cap,p,by simp [o8,K7.BR q]⟩;have N:d9.lt ((K9 G [.cells 1 rows]).nm i) (.sliceU G.nx off n es):=C.1;obtain⟨_,H,I⟩:=N;refine⟨((i G.nx).cap-off) / es,?_,by simp [o8,K7.BR q]⟩;have I:off+n*es<=(i G.nx).cap:=I;exact (ako H).2 (by omega)
 obtain⟨cap,p,M⟩:=L;have s:(A8 i [v,.str d]).toArray=#[.slice (some ⟨(i G.nx).b,(i G.nx).base+off,none⟩) n cap,.string ⟨d.toArray⟩]:=by simp [A8,M,o8]
 rw [s];refine callsIn_wide.2 ?_;match ws,h,g,A,k with
 | [],h,_,_,k=>obtain rfl:n=0:=h.symm;refine ajr (X _ cap ⟨d.toArray⟩ w) ?_;rintro e w' ⟨rfl,rfl⟩;exact k _ _ rfl (Below.refl _ _)
 | [x],h,g,_,k=>obtain rfl:n=1:=h.symm;refine ajr (Y _ _ cap ⟨x.toArray⟩ ⟨d.toArray⟩ w (g 0 x rfl)) ?_;rintro e w' ⟨rfl,rfl⟩;exact k _ _ rfl (Below.refl _ _)
 | x::y::t,h,g,A,k=>
  have R:((x::y::t).map λz:List UInt8=>(⟨z.toArray⟩:ByteArray)).map (λb:ByteArray=>b.data.toList)=x::y::t:=by rw [aCq];exact List.map_id'' (λ_=>rfl) _
  have:=Z (i G.nx).b ((i G.nx).base+off) cap ((x::y::t).map λz:List UInt8=>(⟨z.toArray⟩:ByteArray)) ⟨d.toArray⟩ w (λj z V=>by
   rw [adf] at V;obtain⟨u,hu,rfl⟩:=ahr.1 V;exact g j u hu) D (by simp) (by rw [adN,h];omega) (by rw [adN,h];exact p) (by
    rw [R];show (Lib.join (x::y::t) d).length<=_;rw [← Ja];omega)
  rw [R,adN,h] at this;refine ajr this ?_;rintro e w' ⟨rfl,K⟩;refine k _ _ ?_ K;rw [Ja]
end
def anR (ops:Array Oper)(done:List (Option Nat))(i:Nat):List Nat:=
 match ops[i]? with
 | none=>[]
 | some o=>o.op.operands.toList.filterMap fun
  | .tmp t=>match jH t done 0 with
   | none=>some t
   | some _=>none
  | _=>none
def Zg (ops:Array Oper):List Nat->List (Option Nat)->List Nat
 | [],_=>[]
 | i::l,done=>anR ops done i++Zg ops l (((ops[i]?).bind (·.dst))::done)
def anS:Operand->List Nat
 | .tmp t=>[t]
 | _=>[]
def CW:Code->List Nat
 | .region _ ops false=>Zg ops (List.range ops.size) []
 | .region _ ops true=>Zg ops (canon (Hl ops) (masks ops.toList) ops.size) []
 | .seq a b=>CW a++CW b
 | .cond c a b=>anS c++(CW a++CW b)
 | .block _ b=>CW b
 | .loop b=>CW b
 | .rangeFunc f _ a b=>anS f++(CW a++CW b)
 | _=>[]
def anT (x:Nat):List Nat->Bool
 | []=>false
 | y::l=>bif Nat.beq x y then true else anT x l
def ak9:List Nat->List Nat->List Nat
 | [],acc=>acc.reverse
 | x::l,acc=>bif anT x acc then ak9 l acc else ak9 l (x::acc)
def akb:List ResultVar->List Nat
 | []=>[]
 | .tmp t::l=>t::akb l
 | .cell t _::l=>t::akb l
def kE (P:Program)(f:FuncId):List Nat:=match P.funcs[f]? with
 | none=>[]
 | some fn=>match fn.body with
  | none=>[]
  | some c=>ak9 (CW c++akb fn.results.toList) []
def XH:ay->Nat
 | .seq a b=>XH a+XH b
 | .cond _ a b=>XH a+XH b
 | .block _ a=>XH a
 | .loop a=>XH a+1
 | _=>0
def trN (nm:List SC):ay->Nat->SC
 | .seq a b,n=>bE (trN nm a (n+XH b)) (trN nm b n)
 | .cond c a b,n=>mH (H9 c) (trN nm a (n+XH b)) (trN nm b n)
 | .block id a,n=>jv id (trN nm a n)
 | .loop a,n=>nY (nm.getD (n+XH a) jG)
 | c,_=>wI c
def SG (k:Nat):ay->Nat->Option (ay×Nat)
 | .seq a b,n=>match SG k b n with
  | some x=>some x
  | none=>SG k a (n+XH b)
 | .cond _ a b,n=>match SG k b n with
  | some x=>some x
  | none=>SG k a (n+XH b)
 | .block _ a,n=>SG k a n
 | .loop a,n=>if k=n+XH a then some (a,n) else SG k a n
 | _,_=>none
def fQ (P:Program)(pu rc:Bool)(f:FuncId)(nm:List SC):K3:=match Ze P (kE P f) f with
 | some a=>⟨pu,a.args,a.nslots,a.results,trN nm a.body 0,bif rc then some a.body else none⟩
 | none=>⟨pu,[],0,[],jG,none⟩
def lQ (P:Program)(f:FuncId)(k:Nat)(nm:List SC):SC:=match Ze P (kE P f) f with
 | some a=>match SG k a.body 0 with
  | some (b,n)=>trN nm b n
  | none=>jG
 | none=>jG
theorem anU (n:Nat)(h:n<2^8):(⟨⟨⟨n,h⟩⟩⟩:UInt8)=OfNat.ofNat n:=by show _=UInt8.ofNat n;apply azW.1;show n=(UInt8.ofNat n).toNat;rw [UInt8.toNat_ofNat'];exact (al0 h).symm
structure I4 {α:Type}(a:α) where
 c:α
 h:a=c:=by conv=>{lhs;reduce;try simp only [↓anU,-Int.reduceOfNat,-Int.reduceNegSucc]}
structure Qf (P:Program)(p r:Bool)(f:FuncId) where
 c:K3
 h:cT P (kE P f) p r f=c:=by conv=>{lhs;reduce}
 ok:(XE P (kE P f) f).isSome=true:=by kernel_rfl
theorem Qf.is {P:Program}{p r:Bool}{f:FuncId}(q:Qf P p r f):qG P f q.c:=q.h▸UZ q.ok
end
end Go.AM
