/- Counting and comparing statements, walked; conditions: the memory holds what the arguments say. -/
import Derived.Test.YtfddpcckppibjaaGreatDoorPB4
import GoSem.Core.Utf8
import Derived.Lib.AtoiAll
import Derived.Lib.ItoaNum
set_option linter.all false
namespace Go.Proofs.YtfddpcckppibjaaGreatDoor.TT
open Go Go.AM
noncomputable section
abbrev By:=List UInt8
def sW (b:UInt8):Bool:=decide (97<=b.toNat)&&decide (b.toNat<=122)
def Bz (b:UInt8):Bool:=decide (48<=b.toNat)&&decide (b.toNat<=57)
def GH (b:UInt8):Bool:=sW b||Bz b
def OB (p:UInt8->Bool):By->Nat
 | []=>0
 | b::s=>if p b then OB p s+1 else 0
def akg (s:By):Nat:=s.foldl (λn b=>10*n+(b.toNat-48)) 0
def akh (s:By):Bool:=decide (s=[60,61])||decide (s=[62,61])||decide (s=[61,61])||decide (s=[33,61])
def ones:By:=[123,125,40,41,44,59,61,43,45,42,47,37,60,62]
def ar7 (s:By):Option (Nat×Nat):=match s with
 | []=>none
 | b :: _=>
  if sW b then (if OB GH s<=16 then some (1,OB GH s) else none)
  else if Bz b then (if (b=48∧1<OB Bz s)∨9007199254740992<akg (s.take (OB Bz s)) then none else some (2,OB Bz s))
  else if akh (s.take 2) then some (3,2)
  else if ones.contains b then some (3,1) else none
abbrev Tok:=Nat×By
def aaU:Nat->Nat->By->Sum Nat (List Tok)
 | 0,_,_=>.inr []
 | _+1,_,[]=>.inr []
 | n+1,i,b::t=>
  if b=32∨b=10 then aaU n (i+1) t
  else if b=35 then aaU n (i+OB (λc=>c != 10) (b::t)) ((b::t).drop (OB (λc=>c != 10) (b::t)))
  else match ar7 (b::t) with
   | none=>.inl i
   | some (k,l)=>match aaU n (i+l) ((b::t).drop l) with
    | .inl j=>.inl j
    | .inr ts=>.inr ((k,(b::t).take l)::ts)
def aki (i:Nat)(s:By):Sum Nat (List Tok):=aaU s.length i s
theorem Jz (s:By)(i:Nat)(h:i<s.length):((s[i]).toNat<128∧Utf8.decode ⟨s.toArray⟩ i=((s[i]).toNat,1))∨
  (128<=(s[i]).toNat∧128<=(Utf8.decode ⟨s.toArray⟩ i).1∧(Utf8.decode ⟨s.toArray⟩ i).1<2147483648∧1<=(Utf8.decode ⟨s.toArray⟩ i).2∧i+(Utf8.decode ⟨s.toArray⟩ i).2<=s.length∧
   ∀j (hj:j<s.length),i<=j->j<i+(Utf8.decode ⟨s.toArray⟩ i).2->128<=(s[j]).toNat):=by
 have g:∀k (d:i+k<s.length),(ByteArray.get! ⟨s.toArray⟩ (i+k)).toNat=(s[i+k]).toNat:=λk d=>by show ((s.toArray)[i+k]!).toNat=_;rw [getElem!_pos s.toArray (i+k) (by simpa using d)];simp
 have n:=g 0 (by omega);simp only [Y1] at n;have c:∀k,(decide (i+k<ByteArray.size ⟨s.toArray⟩)&&(ByteArray.get! ⟨s.toArray⟩ (i+k)).toNat / 64==2)=true->∃d:i+k<s.length,(s[i+k]).toNat / 64=2:=λk d=>by
  simp only [Hl,decide_eq_true_eq,beq_iff_eq] at d;have a:i+k<s.length:=by simpa [ByteArray.size] using d.1
  exact⟨a,by rw [← g k a];exact d.2⟩
 have u:=UInt8.toNat_lt s[i];unfold Utf8.decode;simp only [Y1,n];by_cases h0:(s[i]).toNat<128;left;exact⟨h0,by rw [if_pos h0]⟩;right;rw [if_neg h0];have l:∀j (hj:j<s.length),i<=j->j<i+1->128<=(s[j]).toNat:=λj hj a b=>by
  obtain rfl:j=i:=by omega
  omega
 have f:∀{p:Nat×Nat},p=(Utf8.runeError,1)->(128<=p.1∧p.1<2147483648∧1<=p.2∧i+p.2<=s.length∧∀j (hj:j<s.length),i<=j->j<i+p.2->128<=(s[j]).toNat):=λh=>by subst h;exact⟨by decide,by decide,by decide,by show i+1<=_;omega,l⟩
 refine⟨by omega,?_⟩;split;rename_i a;rw [Hl] at a;obtain⟨o,m⟩:=c 1 a.2;split;rename_i b;refine⟨b,?_,(by show 1<=2;omega),by show i+2<=_;omega,λj hj q e=>?_⟩;show _ + _<2147483648;omega;have:j=i∨j=i+1:=by simp only at e;omega
 rcases this with rfl | rfl;omega;omega;exact f rfl;split;rename_i a;rw [Hl,Hl] at a;obtain⟨o,m⟩:=c 1 a.1.2;obtain⟨t,r⟩:=c 2 a.2;split;rename_i b;rw [Hl,decide_eq_true_eq] at b;refine⟨aA (by decide) b.1,?_,(by show 1<=3;omega),by show i+3<=_;omega,λj hj q e=>?_⟩;show _ + _ + _<2147483648;omega;have:j=i∨j=i+1∨j=i+2:=by simp only at e;omega
 rcases this with rfl | rfl | rfl<;>omega
 exact f rfl;split;rename_i a;rw [Hl,Hl,Hl] at a;obtain⟨o,m⟩:=c 1 a.1.1.2;obtain⟨t,r⟩:=c 2 a.1.2;obtain⟨w,v⟩:=c 3 a.2;split;rename_i b;rw [Hl,decide_eq_true_eq] at b;refine⟨aA (by decide) b.1,?_,(by show 1<=4;omega),by show i+4<=_;omega,λj hj q e=>?_⟩;show _ + _ + _ + _<2147483648;omega;have:j=i∨j=i+1∨j=i+2∨j=i+3:=by simp only at e;omega
 rcases this with rfl | rfl | rfl | rfl<;>omega
 exact f rfl;exact f rfl
abbrev nS:d9:=.nilSlice
abbrev iV (a:Int):d9:=.int .i64 a
abbrev r4 (a b:Int)(c:List UInt8)(d:d9):List d9:=[.int .i64 a,.int .i64 b,.str c,d]
abbrev r5 (a:Int)(b:List UInt8)(c d e:d9):List d9:=[.int .i64 a,.str b,c,d,e]
abbrev r6 (a b:Int)(c:List UInt8)(d:d9)(e:Int)(f:Bool):List d9:=[.int .i64 a,.int .i64 b,.str c,d,.int .i64 e,.bool f]
abbrev r7 (a:Int)(b:List UInt8)(c d e:d9)(f:Int)(g:Bool):List d9:=[.int .i64 a,.str b,c,d,e,.int .i64 f,.bool g]
abbrev r3 (a:d9)(b:Int)(c:Bool):List d9:=[a,.int .i64 b,.bool c]
attribute [simp] nS iV r3 r4 r5 r6 r7 lZ dh uw aei aan Xg Qx Us eX eU
attribute [simp] I J S U Z A V tt ff pF zan zaZ zf4 XB
abbrev XJ (a0 a1 a2 a3 a4:d9):T d9:=(.nd (.nd (.nd .e a3 .e) a1 .e) a0 (.nd (.nd .e a4 .e) a2 .e))
abbrev Dl (a0 a1 a2 a3 a4 a5:d9):T d9:=(.nd (.nd (.nd .e a3 .e) a1 (.nd .e a5 .e)) a0 (.nd (.nd .e a4 .e) a2 .e))
abbrev UR (a0 a1 a2 a3 a4 a5 a6:d9):T d9:=(.nd (.nd (.nd .e a3 .e) a1 (.nd .e a5 .e)) a0 (.nd (.nd .e a4 .e) a2 (.nd .e a6 .e)))
abbrev qL (a0 a1 a2 a3 a4 a5 a6 a7:d9):T d9:=(.nd (.nd (.nd (.nd .e a7 .e) a3 .e) a1 (.nd .e a5 .e)) a0 (.nd (.nd .e a4 .e) a2 (.nd .e a6 .e)))
abbrev UU (a0 a1 a2 a3 a4 a5 a6 a7 a8:d9):T d9:=(.nd (.nd (.nd (.nd .e a7 .e) a3 .e) a1 (.nd .e a5 .e)) a0 (.nd (.nd (.nd .e a8 .e) a4 .e) a2 (.nd .e a6 .e)))
abbrev yG (a0 a1 a2 a3 a4 a5 a6 a7 a8 a9:d9):T d9:=(.nd (.nd (.nd (.nd .e a7 .e) a3 .e) a1 (.nd (.nd .e a9 .e) a5 .e)) a0 (.nd (.nd (.nd .e a8 .e) a4 .e) a2 (.nd .e a6 .e)))
abbrev fT (a0 a1 a2 a3 a4 a5 a6 a7 a8 a9 a10:d9):T d9:=(.nd (.nd (.nd (.nd .e a7 .e) a3 .e) a1 (.nd (.nd .e a9 .e) a5 .e)) a0 (.nd (.nd (.nd .e a8 .e) a4 .e) a2 (.nd (.nd .e a10 .e) a6 .e)))
abbrev wN (a0 a1 a2 a3 a4 a5 a6 a7 a8 a9 a10 a11 a12:d9):T d9:=(.nd (.nd (.nd (.nd .e a7 .e) a3 (.nd .e a11 .e)) a1 (.nd (.nd .e a9 .e) a5 .e)) a0 (.nd (.nd (.nd .e a8 .e) a4 (.nd .e a12 .e)) a2 (.nd (.nd .e a10 .e) a6 .e)))
abbrev kI (a0 a1 a2 a3 a4 a5 a6 a7 a8 a9 a10 a11 a12 a13 a14 a15:d9):T d9:=(.nd (.nd (.nd (.nd (.nd .e a15 .e) a7 .e) a3 (.nd .e a11 .e)) a1 (.nd (.nd .e a9 .e) a5 (.nd .e a13 .e))) a0 (.nd (.nd (.nd .e a8 .e) a4 (.nd .e a12 .e)) a2 (.nd (.nd .e a10 .e) a6 (.nd .e a14 .e))))
abbrev ar8 (a0 a1 a2 a3 a4 a5 a6 a7 a8 a9 a10 a11 a12 a13 a14 a15 a16 a17:d9):T d9:=(.nd (.nd (.nd (.nd (.nd .e a15 .e) a7 .e) a3 (.nd .e a11 .e)) a1 (.nd (.nd (.nd .e a17 .e) a9 .e) a5 (.nd .e a13 .e))) a0 (.nd (.nd (.nd (.nd .e a16 .e) a8 .e) a4 (.nd .e a12 .e)) a2 (.nd (.nd .e a10 .e) a6 (.nd .e a14 .e))))
abbrev nO (a0 a1 a2 a3 a4 a5 a6 a7 a8 a9 a10 a11 a12 a13 a14 a15 a16 a17 a18 a19:d9):T d9:=(.nd (.nd (.nd (.nd (.nd .e a15 .e) a7 .e) a3 (.nd (.nd .e a19 .e) a11 .e)) a1 (.nd (.nd (.nd .e a17 .e) a9 .e) a5 (.nd .e a13 .e))) a0 (.nd (.nd (.nd (.nd .e a16 .e) a8 .e) a4 (.nd .e a12 .e)) a2 (.nd (.nd (.nd .e a18 .e) a10 .e) a6 (.nd .e a14 .e))))
attribute [simp] XJ Dl UR qL UU yG fT wN kI ar8 nO
theorem P6 {m:Mem}(a:m.Ok)(d:m.lim<=m.nx):(∀(m:Mem) b,m.new b=ext m [b])∧(∀(m:Mem) l l',ext (ext m l) l'=ext m (l++l'))∧(∀l,(ext m l).get m.nx=l[0]?)∧(∀l c,(ext m l).get (m.nx+c)=l[c]?)∧
  (∀(β:Type) l c off vs (k:Mem->Option β),storeAt (ext m l) (m.nx+c) off vs k=bi (J8 vs) (ob (Go.AM.vC l[c]? off vs) λb=>k (ext m (l.set c b))) none)∧
  (∀(β:Type) l off vs (k:Mem->Option β),storeAt (ext m l) m.nx off vs k=bi (J8 vs) (ob (Go.AM.vC l[0]? off vs) λb=>k (ext m (l.set 0 b))) none)∧
  (∀(l:List P8) c b,c<l.length->(ext m l).set (m.nx+c) b=ext m (l.set c b))∧∀(l:List P8) b,0<l.length->(ext m l).set m.nx b=ext m (l.set 0 b):=
 ⟨G9,H9,r9 a,I7 a,λβ l c off vs k=>eY a d l c off vs k,λβ l off vs k=>ah a d l off vs k,bB a,aZ a⟩
section
variable {m m':Mem}{S:Nat->Prop}(E:Ext m m')
include E
theorem rsE {rs:Nat}{v:d9}{l:List (List d9)}(h:eD m S rs v l):eD m' S rs v l:=h.mono E.nx (λi a _=>E.old i a) (λ_ _ h=>h)
theorem FX {e:Ex}{r:List d9}(h:R7 m S e r):R7 m' S e r:=R7.mono E.nx (λi a _=>E.old i a) (λ_ _ h=>h) _ _ h
theorem yH {e:List Ex}{r:List (List d9)}(h:A9 m S e r):A9 m' S e r:=A9.mono E.nx (λi a _=>E.old i a) (λ_ _ h=>h) _ _ h
theorem XK {e:V7}{r:List d9}(h:ig m S e r):ig m' S e r:=ig.mono E.nx (λi a _=>E.old i a) (λ_ _ h=>h) _ _ h
theorem nP {e:List V7}{r:List (List d9)}(h:H6 m S e r):H6 m' S e r:=H6.mono E.nx (λi a _=>E.old i a) (λ_ _ h=>h) _ _ h
end
theorem sB {m:Mem}{id:Nat}(h:m.lim<=id)(β:Type)(off:Nat)(a:List d9)(k:Mem->Option β):storeAt m id off a k=bi (J8 a) (ob (vC (m.get id) off a) λb=>k (m.set id b)) none:=jA h off a k
theorem HZ {m:Mem}{rs:Nat}{v:d9}{l:List (List d9)}(h:dW m rs v l)(β:Type)(p:d9->β)(q:β):bC v p q=q:=h.kP p q
def Sv (f:Nat):Bool:=Nat.beq f 7||(Nat.beq f 96||(Nat.beq f 98||(Nat.beq f 183||Nat.beq f 230)))
def ar9 (f:FuncId):Option R5:=(fns f).map λsf=>{sf with pure:=Sv f}
def aeV (f:FuncId)(args:List d9)(bs:List NB):Option CX:=match bs with
 | []=>match args with
  | [.str s,.str [c]]=>if f=98 then some ⟨.bool (aaq c s),[]⟩ else none
  | [.int .i64 n]=>if f=230∧0<=n∧n<=9223372036854775807 then some ⟨.str (Lib.itoa n),[]⟩ else none
  | _=>none
 | _=>none
def XL (f:FuncId)(args:List d9)(bs:List NB):Option CX:=if f=7 then sumOf [⟨7,[],[],.bool true,[]⟩] f args bs else if f=183 then aez 187 387 183 13 f args bs else aeV f args bs
def ara (f:FuncId)(args:List d9)(m:Mem):gN:=bi (Nat.beq f 86) (wu args m) (bi (Nat.beq f 240) (nN args m) none)
def KW:Known:=⟨ar9,base,XL,ara⟩
theorem enter {n fu:Nat}{f:FuncId}{sf:R5}{c:List d9}{m:Mem}(h:fns f=some sf)(e:Sv f=false)(d:Nat.beq f 240=false:=by rfl)(b:Nat.beq f 86=false:=by rfl):
  l7 KW fu (n+1) (.func f) c m=lZ (l7 KW fu n) (tF KW (l7 KW fu n) fu) fu sf c m:=by
 rw [dO];have h:KW.fns f=some {sf with pure:=false}:=by show (fns f).map _=_;rw [h,e];rfl
 have a:KW.eff f c m=none:=by show bi (Nat.beq f 86) _ (bi (Nat.beq f 240) _ none)=none;rw [d,b];rfl
 simp only [h,a,L8,P9];rfl
theorem aeW {n fu:Nat}{f:FuncId}{sf:R5}{c:List d9}{m:Mem}(h:fns f=some sf)(e:Sv f=true)(d:Nat.beq f 240=false:=by rfl)(b:Nat.beq f 86=false:=by rfl):
  l7 KW fu (n+1) (.func f) c m=iY KW (l7 KW fu n) fu f {sf with pure:=true} c m:=by
 rw [dO];have h:KW.fns f=some {sf with pure:=true}:=by show (fns f).map _=_;rw [h,e];rfl
 have a:KW.eff f c m=none:=by show bi (Nat.beq f 86) _ (bi (Nat.beq f 240) _ none)=none;rw [d,b];rfl
 simp only [h,a,L8];rfl
theorem OC {lo:Nat}{l:List d9}(m:Mem)(b:xO lo l=[])(c:∀r,kV r l=some l):lQ lo l m=some ⟨[],l,[]⟩:=by show ob (reach m lo (99999+1) (xO lo l) []) _=_;rw [b,FP];show ob (kV (Av lo []) l) (λd=>ob (some []) λa=>some (⟨[],d,a⟩:CO))=_;rw [c];rfl
theorem Lg {n fu:Nat}{a:List d9}{m:Mem}{o:List VM}(h:wu a m=some o):l7 KW fu (n+1) (.func 86) a m=some o:=by rw [dO];have b:KW.eff 86 a m=some o:=h;show (Option.rec _ (λl=>some l) (KW.eff 86 a m):gN)=_;rw [b]
theorem UW (n fu:Nat)(m:Mem):l7 KW fu (n+1) (.func 7) [] m=some [⟨.bool true,m⟩]:=by
 obtain⟨sf,b⟩:∃sf,fns 7=some sf:=⟨_,rfl⟩;rw [aeW (sf:=sf) b rfl,aay (K:=KW) (c:=⟨[],[],[]⟩) (a:=⟨.bool true,[]⟩) (OC m rfl λ_=>rfl)
  (by show XL 7 [] []=_;rw [XL,if_pos rfl];rfl)]
 rfl
set_option maxRecDepth 100000
set_option maxHeartbeats 4000000
theorem XM (b:UInt8)(n fu:Nat)(m:Mem):l7 KW fu (n+1) (.func 93) [.int .u8 (b.toNat:Nat)] m=some [⟨.bool (sW b),m⟩]:=by
 rw [enter (sf:=f93) rfl rfl];have a:decide ((97:Int)<=((b.toNat:Nat):Int))=decide (97<=b.toNat):=by rw [ada];simp only [decide_eq_true_eq];omega
 have c:decide (((b.toNat:Nat):Int)<=(122:Int))=decide (b.toNat<=122):=by rw [ada];simp only [decide_eq_true_eq];omega
 by_cases h:97<=b.toNat<;>simp [f93,sW,a,c,h]
theorem aeX (b:UInt8)(n fu:Nat)(m:Mem):l7 KW fu (n+1) (.func 95) [.int .u8 (b.toNat:Nat)] m=some [⟨.bool (Bz b),m⟩]:=by
 rw [enter (sf:=f95) rfl rfl];have a:decide ((48:Int)<=((b.toNat:Nat):Int))=decide (48<=b.toNat):=by rw [ada];simp only [decide_eq_true_eq];omega
 have c:decide (((b.toNat:Nat):Int)<=(57:Int))=decide (b.toNat<=57):=by rw [ada];simp only [decide_eq_true_eq];omega
 by_cases h:48<=b.toNat<;>simp [f95,Bz,a,c,h]
theorem Sw (b:UInt8)(n fu:Nat)(m:Mem):l7 KW fu (n+1) (.func 128) [.int .u8 (b.toNat:Nat)] m=some [⟨.bool (sW b),m⟩]:=by
 rw [enter (sf:=f128) rfl rfl];have a:decide ((97:Int)<=((b.toNat:Nat):Int))=decide (97<=b.toNat):=by rw [ada];simp only [decide_eq_true_eq];omega
 have c:decide (((b.toNat:Nat):Int)<=(122:Int))=decide (b.toNat<=122):=by rw [ada];simp only [decide_eq_true_eq];omega
 by_cases h:97<=b.toNat<;>simp [f128,sW,a,c,h]
theorem aaV (b:UInt8)(n fu:Nat)(m:Mem):l7 KW fu (n+1) (.func 129) [.int .u8 (b.toNat:Nat)] m=some [⟨.bool (Bz b),m⟩]:=by
 rw [enter (sf:=f129) rfl rfl];have a:decide ((48:Int)<=((b.toNat:Nat):Int))=decide (48<=b.toNat):=by rw [ada];simp only [decide_eq_true_eq];omega
 have c:decide (((b.toNat:Nat):Int)<=(57:Int))=decide (b.toNat<=57):=by rw [ada];simp only [decide_eq_true_eq];omega
 by_cases h:48<=b.toNat<;>simp [f129,Bz,a,c,h]
theorem Lh {m:Mem}(b:m.Ok)(l:List d9):dV (m.new (.cells 1 l.length (T.ofList (l.map ([·]))))) (.slice m.nx 0 l.length l.length) l:=
 .inr ⟨m.nx,0,.inl ⟨_,rfl,q9 _⟩,by simp,.inr ⟨l.length,T.ofList (l.map ([·])),by rw [Mem.L9 b,if_pos rfl],by simp,λi a=>by rw [aaF,T.aD];simp [a]⟩⟩
set_option maxHeartbeats 8000000
@[simp] theorem arb:nE .nilIface .nilIface=some true:=_root_.id rfl
@[simp] theorem ard (t:TypeId)(v:d9):nE (.iface t v) .nilIface=some false:=_root_.id rfl
theorem uh {m:Mem}(a:m.Ok)(d:m.lim<=m.nx):(∀l:List P8,(ext m l).get m.nx=l[0]?)∧(∀(l:List P8) (c:Nat),(ext m l).get (m.nx+c)=l[c]?)∧
  (∀(β:Type) (l:List P8) (c off:Nat) (vs:List d9) (k:Mem->Option β),storeAt (ext m l) (m.nx+c) off vs k=bi (J8 vs) (ob (vC l[c]? off vs) λb=>k (ext m (l.set c b))) none)∧
  (∀(β:Type) (l:List P8) (off:Nat) (vs:List d9) (k:Mem->Option β),storeAt (ext m l) m.nx off vs k=bi (J8 vs) (ob (vC l[0]? off vs) λb=>k (ext m (l.set 0 b))) none)∧
  (∀(l:List P8) (c:Nat) (b:P8),c<l.length->(ext m l).set (m.nx+c) b=ext m (l.set c b))∧∀(l:List P8) (b:P8),0<l.length->(ext m l).set m.nx b=ext m (l.set 0 b):=
 ⟨r9 a,I7 a,λ_=>eY a d,λ_=>ah a d,bB a,aZ a⟩
def Brd (s:By)(pos nx:Nat):Prop:=nx<=s.length∧(nx=s.length∨(∀i (h:i<s.length),pos<=i->i<nx->(s[i]).toNat<128)∨∃h:nx<s.length,s[nx]=10)
theorem Brd.mono {s:By}{b a nx:Nat}(h:Brd s b nx)(hp:b<=a):Brd s a nx:=
 ⟨h.1,h.2.imp id (Or.imp (λh i d e c=>h i d (by omega) c) id)⟩
theorem Brd.step {s:By}{a nx:Nat}(h:Brd s a nx)(b:a<s.length)(hp:a<nx):a+(Utf8.decode ⟨s.toArray⟩ a).2<=nx:=by rcases Jz s a b with⟨h1,h2⟩ | ⟨h1,h2,h3,h4,h5,h6⟩;rw [h2];exact hp;rcases h.2 with h7 | h7 | ⟨h7,h8⟩;omega;have:=h7 a b (q9 _) hp;omega;refine ad9 λc=>?_;have:=h6 nx h7 (by omega) (by omega);rw [h8] at this;exact absurd this (by decide)
def adt (t:Tok):List d9:=[iV (t.1:Nat),.str t.2]
def vL (l:List Tok):List (List d9):=l.map adt
theorem XO {m:Mem}{s:By}{p a:Nat}(h:m.get p=some (.siter s a))(d:m.lim<=p)(hp:a<s.length)(it:OF)(cf:H8)(ls:List d9)(env:T d9)(c:it ls env=.ptr p 0):
  Ec it cf ls env m=some [⟨.tuple [.bool true,iV (a:Nat),.int .i32 ((Utf8.decode ⟨s.toArray⟩ a).1:Nat)],m.set p (.siter s (a+(Utf8.decode ⟨s.toArray⟩ a).2))⟩]:=by
 show iw (it ls env) (λid b=>bi (Nat.beq b 0) (bi (Nat.blt id m.lim) none (JW (m.get id) λs a=>bi (Nat.blt a (len' s)) _ _)) none)=_;rw [c,RY,show Nat.beq 0 0=true from rfl,U4,show Nat.blt p m.lim=false from abP.2 λe=>by have:=Y4.mp e;omega,P9,h];show bi (Nat.blt a (len' s)) _ _=_;rw [K4,show Nat.blt a s.length=true from Y4.mpr hp];rfl
theorem JA {m:Mem}{s:By}{p:Nat}(h:m.get p=some (.siter s s.length))(d:m.lim<=p)(it:OF)(cf:H8)(ls:List d9)(env:T d9)(c:it ls env=.ptr p 0):
  Ec it cf ls env m=some [⟨.tuple [.bool false],m⟩]:=by
 show iw (it ls env) (λid a=>bi (Nat.beq a 0) (bi (Nat.blt id m.lim) none (JW (m.get id) λs b=>bi (Nat.blt b (len' s)) _ _)) none)=_;rw [c,RY,show Nat.beq 0 0=true from rfl,U4,show Nat.blt p m.lim=false from abP.2 λe=>by have:=Y4.mp e;omega,P9,h];show bi (Nat.blt s.length (len' s)) _ _=_;rw [K4,show Nat.blt s.length s.length=false from abP.2 λe=>by have:=Y4.mp e;omega];rfl
def QI (s:By)(p:Nat)(acc:List Tok)(M:Mem)(r:Option (List Out))(l:Sum Nat (List Tok)):Prop:=
 (∃(ts:List Tok) (e3 e4 e5 e6 e7 e8 e9 e10 e11 out e13:d9) (M':Mem),l=.inr ts∧r=some [⟨.exit 0,(.nd (.nd (.nd (.nd (.nd .e (iV 0) .e) e7 .e) e3 (.nd .e e11 .e)) ff (.nd (.nd .e e9 .e) e5 (.nd .e e13 .e))) (.str s) (.nd (.nd (.nd (.nd .e (iV 0) .e) e8 .e) e4 (.nd .e out .e)) (.ptr p 0) (.nd (.nd .e e10 .e) e6 (.nd .e nS .e)))),M',[],none⟩]∧Fr (p+1) p M M'∧gT (p+1) 2 M' out (vL (acc++ts))∧(acc++ts).length<=s.length)∨
 (∃(j:Nat) (e3 e4 e5 e6 e7 e8 e9 e10 e11 out e13:d9) (M':Mem),l=.inl j∧r=some [⟨.ret,(.nd (.nd (.nd (.nd (.nd .e (iV 7) .e) e7 .e) e3 (.nd .e e11 .e)) ff (.nd (.nd .e e9 .e) e5 (.nd .e e13 .e))) (.str s) (.nd (.nd (.nd (.nd .e (iV (j:Int)) .e) e8 .e) e4 (.nd .e out .e)) (.ptr p 0) (.nd (.nd .e e10 .e) e6 (.nd .e nS .e)))),M',[],none⟩]∧Fr (p+1) p M M')
theorem QI.fr {s:By}{p:Nat}{a:List Tok}{M b:Mem}{r:Option (List Out)}{l:Sum Nat (List Tok)}(h:QI s p a b r l)(c:Fr (p+1) p M b):QI s p a M r l:=by rcases h with⟨ts,e3,e4,e5,e6,e7,e8,e9,e10,e11,out,e13,M',h1,h2,h3,h4⟩ | ⟨j,e3,e4,e5,e6,e7,e8,e9,e10,e11,out,e13,M',h1,h2,h3⟩;exact .inl ⟨ts,e3,e4,e5,e6,e7,e8,e9,e10,e11,out,e13,M',h1,h2,c.trans h3,h4⟩;exact .inr ⟨j,e3,e4,e5,e6,e7,e8,e9,e10,e11,out,e13,M',h1,h2,c.trans h3⟩
theorem aaW {m:Mem}{v:d9}(l:List By)(o:l.length<=100000)(g:dV m v (strs l))(s:By)(cf:H8)(fu:Nat):∀(j i:Nat),i+j=l.length->∀(c x:d9) (N:Nat),j+1<=N->
  ∃i' c' x':d9,C8 (λenv m k=>Jv cf fu none env m k) N (.nd (.nd (.nd .e (.str s) .e) v (.nd .e ff .e)) (iV (i:Int)) (.nd (.nd .e x .e) c .e)) m [] =
   bi ((l.drop i).any λt=>decide (s=t)) (some [⟨.ret,(.nd (.nd (.nd .e (.str s) .e) v (.nd .e tt .e)) i' (.nd (.nd .e x' .e) c' .e)),m,[],none⟩]) (some [⟨.exit 0,(.nd (.nd (.nd .e (.str s) .e) v (.nd .e ff .e)) i' (.nd (.nd .e x' .e) c' .e)),m,[],none⟩]):=by
 intro j;induction j with
 | zero=>
  intro i u c x N r;obtain⟨N,rfl⟩:∃k,N=k+1:=⟨N-1,by omega⟩;obtain rfl:i=l.length:=by omega
  have d:=g.len;rw [eZ] at d;refine⟨iV (l.length:Int),.bool false,x,?_⟩;rw [o7,acZ (q9 _)];simp [Jv,d]
 | succ j ih=>
  intro i u c x N r;obtain⟨N,rfl⟩:∃k,N=k+1:=⟨N-1,by omega⟩;have a:i<l.length:=by omega
  have d:=g.len;rw [eZ] at d;obtain⟨id,w,h,y,f⟩:=g.at (i:=i) (by rw [eZ];omega);have p:(strs l)[i]'(by rw [eZ];exact a)=.str l[i]:=aj5 ..;rw [p] at f;have n:l.drop i=l[i]::l.drop (i+1):=Xd a;by_cases ht:s=l[i];refine⟨iV (i:Int),.bool true,.bool true,?_⟩;have b:decide (l[i]=s)=true:=decide_eq_true ht.symm;rw [o7,n,List.any_cons,decide_eq_true ht,Bool.true_or];simp [Jv,d,a,h,f,b];have b:decide (l[i]=s)=false:=decide_eq_false λe=>ht e.symm;obtain⟨i',c',x',q⟩:=ih (i+1) (by omega) tt ff N (by omega);refine⟨i',c',x',?_⟩;rw [o7,n,List.any_cons,decide_eq_false ht,ad6,← q];simp [Jv,d,a,h,f,b,L6 (i:=i) (by omega)]
theorem QJ {m:Mem}{v:d9}(l:List By)(c:l.length<=1000)(f:dV m v (strs l))(s:By)(n fu:Nat)(d:1001<=fu):l7 KW fu (n+1) (.func 59) [v,.str s] m=some [⟨.bool (l.any λt=>decide (s=t)),m⟩]:=by obtain⟨j,i,o,g⟩:=aaW (m:=m) l (by omega) f s (l7 KW fu n) fu l.length 0 (by omega) .undef .undef fu (by omega);have b:C8 (λa m k=>Jv (l7 KW fu n) fu none a m k) fu (.nd (.nd (.nd .e (.str s) .e) v (.nd .e ff .e)) (iV 0) (.nd (.nd .e .undef .e) .undef .e)) m []=_:=g;rw [q8] at b;rw [enter (sf:=f59) rfl rfl];cases h:l.any λt=>decide (s=t)<;>rw [h] at b<;>simp [f59,b]
def Li (s:By)(p:Nat)(acc:List Tok)(M:Mem)(r:Option (List Out))(l:Sum Nat (List Tok)):Prop:=
 (∃(ts:List Tok) (e3 e4 e5 e6 e7 e8 e9 out e11:d9) (M':Mem),l=.inr ts∧r=some [⟨.exit 0,(.nd (.nd (.nd (.nd .e e7 .e) e3 (.nd .e e11 .e)) ff (.nd (.nd .e e9 .e) e5 .e)) (.str s) (.nd (.nd (.nd .e e8 .e) e4 .e) (.ptr p 0) (.nd (.nd .e out .e) e6 .e))),M',[],none⟩]∧Fr (p+1) p M M'∧M'.get p=some (l9 [nS,iV 0,iV 0])∧gT (p+1) 2 M' out (vL (acc++ts))∧(acc++ts).length<=s.length)∨
 (∃(j:Nat) (e3 e4 e5 e6 e7 e8 e9 out e11:d9) (M':Mem),l=.inl j∧r=some [⟨.ret,(.nd (.nd (.nd (.nd .e e7 .e) e3 (.nd .e e11 .e)) ff (.nd (.nd .e e9 .e) e5 .e)) (.str s) (.nd (.nd (.nd .e e8 .e) e4 .e) (.ptr p 0) (.nd (.nd .e out .e) e6 .e))),M',[],none⟩]∧Fr (p+1) p M M'∧M'.get p=some (l9 [nS,iV 7,iV (j:Int)]))
theorem Li.fr {s:By}{p:Nat}{a:List Tok}{M b:Mem}{r:Option (List Out)}{l:Sum Nat (List Tok)}(h:Li s p a b r l)(c:Fr (p+1) p M b):Li s p a M r l:=by rcases h with⟨ts,e3,e4,e5,e6,e7,e8,e9,out,e11,M',h1,h2,h3,h4⟩ | ⟨j,e3,e4,e5,e6,e7,e8,e9,out,e11,M',h1,h2,h3,h4⟩;exact .inl ⟨ts,e3,e4,e5,e6,e7,e8,e9,out,e11,M',h1,h2,c.trans h3,h4⟩;exact .inr ⟨j,e3,e4,e5,e6,e7,e8,e9,out,e11,M',h1,h2,c.trans h3,h4⟩
@[simp] theorem akk (k:IntKind)(n:Int):u7 (.int k n)=true:=_root_.id rfl
@[simp] theorem akl (s:By):u7 (.str s)=true:=_root_.id rfl
@[simp] theorem ahx (b:Bool):u7 (.bool b)=true:=_root_.id rfl
def Lj (m m':Mem)(s:By)(v:d9)(e a:Int):Prop:=match aki 0 s with
 | .inr ts=>gT m.nx 2 m' v (vL ts)∧ts.length<=s.length∧e=0∧a=-1
 | .inl j=>v=nS∧e=7∧a=(j:Int)
@[simp] theorem arf:GJ .s=eqStr:=_root_.id rfl
theorem Lj.same {m m1 l g:Mem}{s:By}{i k:d9}{e c f d:Int}(a:Lj m m1 s i e c)(b:Lj l g s k f d):e=f∧c=d∧∃ts:List Tok,ts.length<=s.length∧dW m1 2 i (vL ts)∧dW g 2 k (vL ts):=by
 unfold Lj at a b;cases h:aki 0 s with
 | inr ts=>rw [h] at a b;obtain⟨n,o,rfl,rfl⟩:=a;obtain⟨p,q,rfl,rfl⟩:=b;exact⟨rfl,rfl,ts,o,n.slice,p.slice⟩
 | inl j=>rw [h] at a b;obtain⟨rfl,rfl,rfl⟩:=a;obtain⟨rfl,rfl,rfl⟩:=b;exact⟨rfl,rfl,[],by simp,.inl ⟨rfl,rfl⟩,.inl ⟨rfl,rfl⟩⟩
mutual
def gM:Ex->Nat
 | .mk _ _ _ a=>1+T9 a
def T9:List Ex->Nat
 | []=>0
 | e::l=>gM e+T9 l
end
mutual
def dZ:Ex->Nat
 | .mk _ _ _ a=>1+V6 a
def V6:List Ex->Nat
 | []=>0
 | e::l=>max (dZ e) (V6 l)
end
mutual
def stP:V7->Nat
 | .mk _ _ e t f=>1+T9 e+U2 t+U2 f
def U2:List V7->Nat
 | []=>0
 | s::l=>stP s+U2 l
end
mutual
def rJ:V7->Nat
 | .mk _ _ e t f=>1+max (V6 e) (max (au t) (au f))
def au:List V7->Nat
 | []=>0
 | s::l=>max (rJ s) (au l)
end
def ni (l:List V7):Int×Int:=if U2 l<=500∧au l<=20 then (U2 l,au l) else (-1,-1)
def comb (a b:Nat×Nat):Nat×Nat:=(a.1+b.1,max a.2 b.2)
def gY (s:Nat×Nat)(l:List (Nat×Nat)):Nat×Nat:=l.foldl comb s
mutual
def bE:Nat->Ex->Nat×Nat
 | d,.mk _ _ _ a=>gY (1,1) (zX d a)
def zX:Nat->List Ex->List (Nat×Nat)
 | _,[]=>[]
 | 0,_ :: _=>[(0,21)]
 | d+1,e::l=>((bE d e).1,(bE d e).2+1)::zX (d+1) l
end
mutual
def bSt:Nat->V7->Nat×Nat
 | d,.mk _ _ e t f=>comb (comb (gY (1,1) (zX (d-1) e)) ((bS (d-1) t).1,(bS (d-1) t).2+1)) ((bS (d-1) f).1,(bS (d-1) f).2+1)
def bS:Nat->List V7->Nat×Nat
 | _,[]=>(0,0)
 | 0,_ :: _=>(0,21)
 | d+1,s::l=>comb (bSt (d+1) s) (bS (d+1) l)
end
theorem JB:∀(l:List (Nat×Nat)) (s:Nat×Nat),(gY s l).1=s.1+(l.map (·.1)).sum∧s.2<=(gY s l).2∧(∀x∈l,x.2<=(gY s l).2)∧∀B,s.2<=B->(∀x∈l,x.2<=B)->(gY s l).2<=B
 | [],s=>⟨by simp [gY],q9 _,by simp,λB h _=>h⟩
 | x::l,s=>by
  obtain⟨h1,h2,h3,h4⟩:=JB l (comb s x);have e:gY s (x::l)=gY (comb s x) l:=rfl;rw [e];refine⟨?_,?_,?_,?_⟩;rw [h1];simp [comb];omega;have:s.2<=(comb s x).2:=by simp [comb];omega
  omega;intro y hy;rcases Z5.1 hy with rfl | hy;have:y.2<=(comb s y).2:=by simp [comb];omega
  omega;exact h3 y hy;intro B hs hB;refine h4 B ?_ λy hy=>hB y (by simp [hy]);have:=hB x (by simp);simp [comb];omega
structure WOk (d:Nat)(a:List Ex)(w:List (Nat×Nat)):Prop where
 ex:V6 a<=d->(w.map (·.1)).sum=T9 a∧(∀x∈w,x.2<=V6 a+1)∧(a≠[]->∃x∈w,x.2=V6 a+1)
 big:d<V6 a->∃x∈w,21<=x.2
 le:(w.map (·.1)).sum<=T9 a
 lv:∀x∈w,x.2<=21+d
 len:w.length<=a.length
theorem zY {d:Nat}{a:List Ex}{w:List (Nat×Nat)}(h:WOk d a w):(V6 a<=d->gY (1,1) w=(1+T9 a,1+V6 a))∧(d<V6 a->21<=(gY (1,1) w).2)∧(gY (1,1) w).1<=1+T9 a∧(gY (1,1) w).2<=21+d:=by
 obtain⟨f,p,g,i⟩:=JB w (1,1);refine⟨λb=>?_,λb=>?_,?_,?_⟩;obtain⟨j,k,l⟩:=h.ex b;have m:(gY (1,1) w).2=1+V6 a:=by by_cases ha:a=[];subst ha;have:w=[]:=aaB.1 (Nat.le_zero.1 (by simpa using h.len));subst this;rfl;obtain⟨x,c,e⟩:=l ha;have n:=g x c;have o:=i (V6 a+1) (by simp) k;omega
 rw [aeH];exact⟨by rw [f,j],m⟩;obtain⟨x,c,e⟩:=h.big b;have:=g x c;omega;rw [f];have:=h.le;simp;omega
 exact i _ (by simp;omega) h.lv
mutual
theorem Sy:∀(e:Ex) (d:Nat),(dZ e<=d+1->bE d e=(gM e,dZ e))∧(d+1<dZ e->21<=(bE d e).2)∧(bE d e).1<=gM e∧(bE d e).2<=21+d
 | .mk k n s a,d=>by have h:=zY (vM a d);rw [bE,dZ,gM];exact⟨λhd=>h.1 (by omega),λhd=>h.2.1 (by omega),h.2.2.1,h.2.2.2⟩
theorem vM:∀(a:List Ex) (d:Nat),WOk d a (zX d a)
 | [],d=>⟨λ_=>⟨rfl,by simp [zX],λh=>absurd rfl h⟩,λh=>by simp [V6] at h,by simp [zX,T9],by simp [zX],by simp [zX]⟩
 | e::l,0=>by
  have he:1<=dZ e:=by cases e;simp [dZ]
  refine⟨λh=>?_,λ_=>⟨(0,21),by simp [zX],by simp⟩,by simp [zX],by simp [zX],by simp [zX]⟩;rw [V6] at h;omega
 | e::l,d+1=>by
  obtain⟨h1,h2,h3,h4⟩:=Sy e d;have H:=vM l (d+1);refine⟨λh=>?_,λh=>?_,?_,?_,?_⟩;rw [V6] at h;obtain⟨a1,a2,a3⟩:=H.ex (by omega);have e1:=h1 (by omega);rw [zX,V6,T9,e1];refine⟨by simp [a1],λx hx=>?_,λ_=>?_⟩;rcases Z5.1 hx with rfl | hx;simp;omega;have:=a2 x hx;omega;by_cases hc:V6 l<=dZ e;exact⟨(gM e,dZ e+1),by simp,by simp;omega⟩;have hl:l≠[]:=by rintro rfl;simp [V6] at hc
  obtain⟨x,hx,hx2⟩:=a3 hl;exact⟨x,by simp [hx],by omega⟩;rw [V6] at h;rw [zX];by_cases hc:d+1<dZ e;have:=h2 hc;exact⟨((bE d e).1,(bE d e).2+1),by simp,by simp;omega⟩;obtain⟨x,hx,hx2⟩:=H.big (by omega);exact⟨x,by simp [hx],hx2⟩;rw [zX,T9];have:=H.le;simp;omega
  rw [zX];intro x hx;rcases Z5.1 hx with rfl | hx;simp;omega;exact H.lv x hx;rw [zX];have:=H.len;simpa using this
end
mutual
theorem aeY:∀(s:V7) (d:Nat),(rJ s<=d+1->bSt (d+1) s=(stP s,rJ s))∧(d+1<rJ s->21<=(bSt (d+1) s).2)∧(bSt (d+1) s).1<=stP s∧(bSt (d+1) s).2<=22+d
 | .mk k n e t f,d=>by obtain⟨e1,e2,e3,e4⟩:=zY (vM e d);obtain⟨t1,t2,t3,t4⟩:=JC t d;obtain⟨f1,f2,f700,f701⟩:=JC f d;rw [bSt,rJ,stP];simp only [aiT];refine⟨λh=>?_,λh=>?_,?_,?_⟩;rw [e1 (by omega),t1 (by omega),f1 (by omega)];simp only [comb];rw [aeH];exact⟨rfl,by simp only;omega⟩;simp only [comb];by_cases hc:d<V6 e;have:=e2 hc;omega;by_cases hc2:d<au t;have:=t2 hc2;omega;have:=f2 (by omega);omega;simp only [comb];omega;simp only [comb];omega
theorem JC:∀(l:List V7) (d:Nat),(au l<=d->bS d l=(U2 l,au l))∧(d<au l->21<=(bS d l).2)∧(bS d l).1<=U2 l∧(bS d l).2<=21+d
 | [],d=>⟨λ_=>by simp [bS,U2,au],λh=>by simp [au] at h,by simp [bS],by simp [bS]⟩
 | s::l,0=>by
  have hs:1<=rJ s:=by cases s;simp [rJ]
  refine⟨λh=>?_,λ_=>by simp [bS],by simp [bS],by simp [bS]⟩;rw [au] at h;omega
 | s::l,d+1=>by obtain⟨s1,s2,s3,s4⟩:=aeY s d;obtain⟨l1,l2,l3,l4⟩:=JC l (d+1);rw [bS,au,U2];simp only [comb];refine⟨λh=>?_,λh=>?_,?_,?_⟩;rw [s1 (by omega),l1 (by omega)];by_cases hc:d+1<rJ s;have:=s2 hc;omega;have:=l2 (by omega);omega;omega;omega
end
theorem XP (l:List V7):(if 500<(bS 22 l).1∨20<(bS 22 l).2 then ((-1,-1):Int×Int) else (((bS 22 l).1:Int),((bS 22 l).2:Int)))=ni l:=by obtain⟨a,b,c,d⟩:=JC l 22;unfold ni;by_cases h:au l<=22;rw [a h];by_cases h5:U2 l<=500∧au l<=20;rw [if_neg (by simp only;omega),if_pos h5];rw [if_pos (by simp only;omega),if_neg h5];rw [if_pos (.inr (by have:=b (by omega);omega)),if_neg (by omega)]
mutual
def rE:Nat->Ex->Nat×Nat
 | d,.mk _ _ _ a=>qx d a (1,1)
def qx:Nat->List Ex->Nat×Nat->Nat×Nat
 | _,[],o=>o
 | d,e::l,o=>if 500<o.1 then o else if 20<d then (501,21) else qx d l (o.1+(rE (d+1) e).1,max o.2 ((rE (d+1) e).2+1))
end
def Pm:Nat->List Ex->Nat×Nat->Nat×Nat
 | _,[],o=>o
 | d,e::l,o=>if 500<o.1 then o else Pm d l (o.1+(rE (d+1) e).1,max o.2 ((rE (d+1) e).2+1))
mutual
def QK:Nat->V7->Nat×Nat
 | d,.mk _ _ e t f=>if 20<d then (501,21) else
  ((Pm d e (1,1)).1+(yI (d+1) t (0,0)).1+(yI (d+1) f (0,0)).1,max (Pm d e (1,1)).2 (max ((yI (d+1) t (0,0)).2+1) ((yI (d+1) f (0,0)).2+1)))
def yI:Nat->List V7->Nat×Nat->Nat×Nat
 | _,[],o=>o
 | d,s::l,o=>if 500<o.1 then o else yI d l (o.1+(QK d s).1,max o.2 (QK d s).2)
end
mutual
theorem Sz:∀(e:Ex) (d:Nat),d<=21->(dZ e+d<=22∧gM e<=500->rE d e=(gM e,dZ e))∧(¬ (dZ e+d<=22∧gM e<=500)->501<=(rE d e).1)∧(rE d e).1<=501+500*(21-d)∧(rE d e).2<=21+(21-d)
 | .mk k n s a,d,hd=>by obtain⟨h1,h2,h3,h4⟩:=OD a d 1 1 hd (by omega) (by omega);rw [rE,dZ,gM];refine⟨λh=>?_,λh=>h2 (by omega),h3 (by omega),h4⟩;rw [h1 (by omega),aeH];exact⟨rfl,by simp only;omega⟩
theorem OD:∀(a:List Ex) (d p l:Nat),d<=21->1<=l->l<=21+(21-d)->(V6 a+d<=21∧p+T9 a<=500->qx d a (p,l)=(p+T9 a,max l (V6 a+1)))∧(¬ (V6 a+d<=21∧p+T9 a<=500)->501<=(qx d a (p,l)).1)∧
  (p<=501+500*(21-d)->(qx d a (p,l)).1<=501+500*(21-d))∧(qx d a (p,l)).2<=21+(21-d)
 | [],d,p,l,hd,hl,hl2=>by rw [qx,V6,T9];refine⟨λh=>?_,λh=>by simp only;omega,λh=>h,hl2⟩;rw [aeH];exact⟨rfl,by simp only;omega⟩
 | e::a,d,p,l,hd,hl,hl2=>by
  have he:1<=dZ e∧1<=gM e:=by cases e;simp [dZ,gM]
  rw [qx];by_cases hp:500<p;rw [if_pos hp];exact⟨λh=>by omega,λ_=>by simp only;omega,λh=>h,hl2⟩;rw [if_neg hp];by_cases h20:20<d;rw [if_pos h20,V6];exact⟨λh=>by omega,λ_=>by simp,λ_=>by simp only;omega,by simp only;omega⟩;rw [if_neg h20];obtain⟨e1,e2,e3,e4⟩:=Sz e (d+1) (by omega);have hl3:max l ((rE (d+1) e).2+1)<=21+(21-d):=by omega
  obtain⟨a1,a2,a3,a4⟩:=OD a d (p+(rE (d+1) e).1) (max l ((rE (d+1) e).2+1)) hd (by omega) hl3;rw [V6,T9];refine⟨λh=>?_,λh=>?_,λh=>a3 (by omega),a4⟩;have x:=e1 (by omega);rw [x] at a1 ⊢;rw [a1 (by simp only;omega),aeH];exact⟨by simp only;omega,by simp only;omega⟩;by_cases hc:dZ e+(d+1)<=22∧gM e<=500;have x:=e1 hc;rw [x] at a2 ⊢;exact a2 (by simp only;omega);have x:=e2 hc;refine a2 ?_;omega
end
theorem QL:∀(a:List Ex) (d p l:Nat),d<=20->1<=l->l<=21+(21-d)->(V6 a+d<=21∧p+T9 a<=500->Pm d a (p,l)=(p+T9 a,max l (V6 a+1)))∧(¬ (V6 a+d<=21∧p+T9 a<=500)->501<=(Pm d a (p,l)).1)∧
  (p<=501+500*(21-d)->(Pm d a (p,l)).1<=501+500*(21-d))∧(Pm d a (p,l)).2<=21+(21-d)∧1<=(Pm d a (p,l)).2
 | [],d,p,l,hd,hl,hl2=>by rw [Pm,V6,T9];refine⟨λh=>?_,λh=>by simp only;omega,λh=>h,hl2,hl⟩;rw [aeH];exact⟨rfl,by simp only;omega⟩
 | e::a,d,p,l,hd,hl,hl2=>by rw [Pm];by_cases hp:500<p;rw [if_pos hp];exact⟨λh=>by omega,λ_=>by simp only;omega,λh=>h,hl2,hl⟩;rw [if_neg hp];obtain⟨e1,e2,e3,e4⟩:=Sz e (d+1) (by omega);obtain⟨a1,a2,a3,a4,a5⟩:=QL a d (p+(rE (d+1) e).1) (max l ((rE (d+1) e).2+1)) hd (by omega) (by omega);rw [V6,T9];refine⟨λh=>?_,λh=>?_,λh=>a3 (by omega),a4,a5⟩;have x:=e1 (by omega);rw [x] at a1 ⊢;rw [a1 (by simp only;omega),aeH];exact⟨by simp only;omega,by simp only;omega⟩;by_cases hc:dZ e+(d+1)<=22∧gM e<=500;have x:=e1 hc;rw [x] at a2 ⊢;exact a2 (by simp only;omega);have x:=e2 hc;exact a2 (by omega)
mutual
theorem XQ:∀(s:V7) (d:Nat),1<=d->d<=21->(rJ s+d<=21∧stP s<=500->QK d s=(stP s,rJ s))∧(¬ (rJ s+d<=21∧stP s<=500)->501<=(QK d s).1∨22<=(QK d s).2+d)∧(QK d s).1<=20000*3^(21-d)∧(QK d s).2+d<=64
 | .mk k n e t f,d,hd1,hd=>by
  rw [QK];by_cases h20:20<d;rw [if_pos h20,rJ];refine⟨λh=>by omega,λ_=>by simp,?_,by simp only;omega⟩;have:=Nat.one_le_pow (21-d) 3 (by omega);simp only;omega;rw [if_neg h20];obtain⟨e1,e2,e3,e4,e5⟩:=QL e d 1 1 (by omega) (by omega) (by omega);obtain⟨t1,t2,t3,t4⟩:=yJ t (d+1) 0 0 (by omega) (by omega) (by omega);obtain⟨f1,f2,f700,f701⟩:=yJ f (d+1) 0 0 (by omega) (by omega) (by omega);rw [rJ,stP];refine⟨λh=>?_,λh=>?_,?_,?_⟩;rw [e1 (by omega),t1 (by omega),f1 (by omega),aeH];exact⟨by simp only;omega,by simp only;omega⟩;by_cases hc:V6 e+d<=21∧1+T9 e<=500;by_cases hc2:au t+(d+1)<=21∧0+U2 t<=500;by_cases hc3:au f+(d+1)<=21∧0+U2 f<=500;rw [e1 hc,t1 hc2,f1 hc3];simp only;omega;have:=f2 hc3;simp only;omega;have:=t2 hc2;simp only;omega;have:=e2 hc;simp only;omega;have a1:=e3 (by omega);have a2:=t3 (by omega);have a3:=f700 (by omega);have hp:3^(21-d)=3*3^(21-(d+1)):=by rw [show 21-d=(21-(d+1))+1 from by omega,aj6];omega
  have:=Nat.one_le_pow (21-(d+1)) 3 (by omega);simp only;omega;simp only;omega
theorem yJ:∀(l:List V7) (d p v:Nat),1<=d->d<=21->v+d<=64->(au l+d<=21∧p+U2 l<=500->yI d l (p,v)=(p+U2 l,max v (au l)))∧(¬ (au l+d<=21∧p+U2 l<=500)->501<=(yI d l (p,v)).1∨22<=(yI d l (p,v)).2+d)∧
  (p<=500+20000*3^(21-d)->(yI d l (p,v)).1<=500+20000*3^(21-d))∧(yI d l (p,v)).2+d<=64∧p<=(yI d l (p,v)).1∧v<=(yI d l (p,v)).2
 | [],d,p,v,hd1,hd,hv=>by rw [yI,au,U2];refine⟨λh=>?_,λh=>by simp only;omega,λh=>h,hv,q9 _,q9 _⟩;rw [aeH];exact⟨rfl,by simp only;omega⟩
 | s::l,d,p,v,hd1,hd,hv=>by
  have hs:1<=rJ s∧1<=stP s:=by cases s;simp [rJ,stP];omega
  rw [yI];by_cases hp:500<p;rw [if_pos hp];exact⟨λh=>by omega,λ_=>by simp only;omega,λh=>h,hv,q9 _,q9 _⟩;rw [if_neg hp];dsimp only at hp ⊢;obtain⟨s1,s2,s3,s4⟩:=XQ s d hd1 hd;obtain⟨l1,l2,l3,l4,l5,l6⟩:=yJ l d (p+(QK d s).1) (max v (QK d s).2) hd1 hd (by omega);rw [au,U2];refine⟨λh=>?_,λh=>?_,λh=>l3 (by omega),l4,by omega,by omega⟩;have x:=s1 (by omega);rw [x] at l1 ⊢;rw [l1 (by simp only;omega),aeH];exact⟨by simp only;omega,by simp only;omega⟩;by_cases hc:rJ s+d<=21∧stP s<=500;have x:=s1 hc;rw [x] at l2 ⊢;exact l2 (by simp only;omega);have x:=s2 hc;rcases x with x | x;exact .inl (by omega);exact .inr (by omega)
end
theorem UY (l:List V7):(if 500<(yI 1 l (0,0)).1∨20<(yI 1 l (0,0)).2 then ((-1,-1):Int×Int) else (((yI 1 l (0,0)).1:Int),((yI 1 l (0,0)).2:Int)))=ni l:=by obtain⟨a,b,c,d,e,f⟩:=yJ l 1 0 0 (by omega) (by omega) (by omega);unfold ni;by_cases h:au l+1<=21∧0+U2 l<=500;rw [a h,if_neg (by simp only;omega),if_pos (by omega)];simp;rw [if_pos (by have:=b h;omega),if_neg (by omega)]
def D9 (x:Nat×Nat):List d9:=[iV (x.1:Int),iV (x.2:Int)]
def iU (l:List (Nat×Nat)):List (List d9):=l.map D9
theorem yK (l:List (Nat×Nat)):(iU l).length=l.length:=by simp [iU]
def Small (l:List (Nat×Nat)):Prop:=l.length<=100000∧∀x∈l,x.1<=10000000000000∧x.2<=1000000
theorem zZ {β:Type}{m:Mem}(d:m.Ok){p:Nat}(hp:p<m.nx)(c:m.lim<=p)(l:List P8)(off:Nat)(a:List d9)(k:Mem->Option β):storeAt (ext m l) p off a k=bi (J8 a) (ob (vC (m.get p) off a) λb=>k ((ext m l).set p b)) none:=by rw [jA (by rw [Sb];exact c),R9 d l hp]
structure At (p:Nat)(m M:Mem):Prop where
 lt:p<m.nx
 limp:m.lim<=p
 fr:Fr m.nx p m M
section
variable {p:Nat}{m M M':Mem}
theorem At.ok (h:At p m M):M.Ok:=h.fr.ok
theorem At.DK (h:At p m M):p<M.nx:=gq h.lt h.fr.nx
theorem At.lim (h:At p m M):M.lim<=p:=by rw [h.fr.lim];exact h.limp
theorem At.Aa (h:At p m M):M.lim<=M.nx:=aA h.lim (ahj h.DK)
theorem At.start (b:m.Ok)(hp:p<m.nx)(a:m.lim<=p):At p m m:=⟨hp,a,Fr.refl b⟩
theorem At.nx (h:At p m M)(e:Ext M M'):At p m M':=⟨h.lt,h.limp,h.fr.trans (e.fr h.fr.nx)⟩
theorem At.set (h:At p m M)(b:P8):At p m (M.set p b):=
 ⟨h.lt,h.limp,h.fr.trans ⟨Mem.Ok.set h.ok h.DK _,by simp,by simp,λi c a=>K5 h.ok _ h.DK a⟩⟩
theorem At.ext {a:Mem}(h:At p m M)(e:Ext a m)(hp:a.nx<=p):Ext a M:=⟨h.ok,aA e.nx h.fr.nx,h.fr.lim.trans e.lim,λi b=>(h.fr.old i (gq b e.nx) (by omega)).trans (e.old i b)⟩
end
theorem QM (a b:Nat):((max a b:Nat):Int)=max (a:Int) b:=by omega
theorem DL {x y:OF}{ls:List d9}{env:T d9}{a b:Int}(c:x ls env=.int .i64 a)(d:y ls env=.int .i64 b):Tt true x [y] ls env=some (iV (max a b)):=by show ob (mm2 true (x ls env) (y ls env)) some=_;rw [c,d];show some (d9.int .i64 (bi (kQ a b) b a))=_;rw [iA];by_cases h:a<b;rw [decide_eq_true h,U4,Int.max_def,if_pos (by omega)];rw [decide_eq_false h,P9,Int.max_def];split<;>first | rfl | (congr 2;omega)
theorem aaY {m:Mem}{p:Nat}{v:d9}{a0 b0:Int}{cf:H8}{fu:Nat}(l:List (Nat×Nat))(hs:Small l)(V:∀M,At p m M->dW M 2 v (iU l))(U:rO v (some (d9.int .i64 0)) (λ_ _ n _=>some (iV n)) (λ_ _ n _=>some (iV n))=some (.int .i64 l.length)):
  ∀(j i:Nat),i+j=l.length->∀(s:Nat×Nat) (c x:d9) (M:Mem) (N:Nat),At p m M->M.get p=some (l9 (D9 s))->s.1<=20000000000000*(i+1)->s.2<=1000000->j+1<=N->
  ∃c' x' M',C8 (λenv m k=>Ox cf fu none env m k) N (UU (.agg [iV a0,iV b0]) v (iV (i:Int)) (iV (l.length:Int)) c v (.ptr p 0) x (.ptr (p+1) 0)) M []=some [⟨.exit 0,(UU (.agg [iV a0,iV b0]) v (iV (l.length:Int)) (iV (l.length:Int)) c' v (.ptr p 0) x' (.ptr (p+1) 0)),M',[],none⟩]∧At p m M'∧M'.get p=some (l9 (D9 (gY s (l.drop i)))):=by
 have E:=U;have T:=hs.1;intro j;induction j with
 | zero=>
  intro i R s c x M N d w r t P;obtain⟨N,rfl⟩:∃k,N=k+1:=⟨N-1,by omega⟩;obtain rfl:i=l.length:=by omega
  refine⟨.bool false,x,M,?_,d,?_⟩;rw [o7];simp [Ox];rw [aaJ];exact w
 | succ j ih=>
  intro i R s c x M N d w r t P;obtain⟨N,rfl⟩:∃k,N=k+1:=⟨N-1,by omega⟩;have e:i<l.length:=by omega
  have h:i<(iU l).length:=by rw [yK];exact e
  have g:=d.ok;have S:=d.Aa;have F:=d.DK;have B:=d.lim;obtain⟨Y,o1,H,a2,a3,I,a5⟩:=(V M d).at h;have o:(iU l)[i]=D9 l[i]:=by simp [iU]
  have f:=I 0 2 (by omega) (by omega);rw [o] at f;have C:=hs.2 l[i] (aaO e);have Q:l.drop i=l[i]::l.drop (i+1):=Xd e;generalize hX:l[i]=X at *;obtain⟨u,D⟩:=X;obtain⟨z,G⟩:=s;simp only [Y1,D9,q8,aiQ,aha] at f w C r t;have Z:=λ(β:Type) (l:List P8) (off:Nat) (vs:List d9) (k:Mem->Option β)=>zZ (β:=β) g F B l off vs k;have O:=λ(l:List P8)=>R9 g l F;have A:=(d.nx (G6 g [l9 [iV (u:Int),iV (D:Int)]])).set (l9 (D9 (comb (z,G) (u,D))));obtain⟨c',x',M',L,J,K⟩:=ih (i+1) (by omega) (comb (z,G) (u,D)) tt (.ptr M.nx 0) _ N A (I8 (d.nx (G6 g _)).ok _ (d.nx (G6 g _)).DK rfl) (by simp [comb];omega) (by simp [comb];omega) (by omega);have q:=λx y ls env a b C W=>DL (x:=x) (y:=y) (ls:=ls) (env:=env) (a:=a) (b:=b) C W;have w1:iP ((z:Int)+(u:Int))=((z+u:Nat):Int):=by rw [K6 (by omega) (by omega)];rfl
  refine⟨c',x',M',?_,J,?_⟩;rw [o7,← L];simp [Ox,P6 g S,Z,O,w,H,f,e,D9,comb,L6 (i:=i) (by omega),q,w1,QM];rw [Q];exact K
theorem Ll {m:Mem}(c:m.Ok)(p:m.lim<=m.nx){v:d9}(s:Nat×Nat)(l:List (Nat×Nat))(hs:Small l)(q:dW m 2 v (iU l))(A:s.1<=20000000000000)(w:s.2<=1000000)(n fu:Nat)(e:l.length+1<=fu):
  ∃m',l7 KW fu (n+1) (.func 62) [.agg (D9 s),v] m=some [⟨.agg (D9 (gY s l)),m'⟩]∧Ext m m':=by
 have j:=q.len;rw [yK] at j;have E:=G6 c [l9 (D9 s),l9 [iV 0,iV 0]];have x:At m.nx (ext m [l9 (D9 s),l9 [iV 0,iV 0]]) _:=At.start E.ok (by simp) (by rw [E.lim];exact p);obtain⟨z,H,M',g,a,o⟩:=aaY (cf:=l7 KW fu n) (fu:=fu) (a0:=(s.1:Int)) (b0:=(s.2:Int)) l hs (λM h=>q.ext (h.ext E (q9 _))) j l.length 0 (by omega) s .undef .undef (_) fu x (by rw [r9 c];rfl) (by omega) w e;have t:C8 (λd m k=>Ox (l7 KW fu n) fu none d m k) fu (UU (.agg [iV (s.1:Int),iV (s.2:Int)]) v (iV 0) (iV (l.length:Int)) .undef v (.ptr m.nx 0) .undef (.ptr (m.nx+1) 0)) (ext m [l9 (D9 s),l9 [iV 0,iV 0]]) []=_:=g;have f:M'.get (m.nx+1)=some (l9 [iV 0,iV 0]):=by rw [a.fr.old _ (by simp) (by omega),I7 c];rfl
 have b:m.nx+1<M'.nx:=gq (by simp) a.fr.nx;have i:M'.lim<=m.nx+1:=by have:=a.lim;omega
 have y:=sB i;have u:∀B,(M'.set (m.nx+1) B).get (m.nx+1)=some B:=λB=>I8 a.ok _ b rfl;have EM:=a.ext E (q9 _);refine⟨M'.set (m.nx+1) (l9 (D9 (gY s l))),?_,?_⟩;rw [q8] at o;rw [enter (sf:=f62) rfl rfl];generalize gY s l=r at *;obtain⟨C,D⟩:=r;obtain⟨F,G⟩:=s;simp only [D9] at *;simp [f62,P6 c p,u7,j,t,o,f,y,u];exact EM.set b (by omega) _
theorem bs2 (z:List d9)(ps:List (Nat×Nat×OF))(ls:List d9)(env:T d9)(a:Nat)(h:z.length=2):O9 2 1 z ps ls env a=ob (lay ps ls env z) λcells=>if cells.length=2 then some (.slice a 0 1 1,some (l9 cells)) else none:=kG 2 z ps ls env a h
theorem fB.ext {m m':Mem}{S:Nat->Prop}{a:List Ex}{v:d9}(h:fB m S a v)(e:Ext m m'):fB m' S a v:=by obtain⟨b,d,f⟩:=h;exact⟨b,d.mono e.nx (λi c _=>e.old i c) λ_ _ h=>h,A9.mono e.nx (λi c _=>e.old i c) (λ_ _ h=>h) a b f⟩
theorem SA:∀(l:List (Nat×Nat)) (x:Nat×Nat),x∈l->x.1<=(l.map (·.1)).sum
 | y::l,x,h=>by simp only [Z6,agm];rcases Z5.1 h with rfl | h;omega;have:=SA l x h;omega
theorem K8:∀l:List Ex,l.length<=T9 l
 | []=>by simp
 | e::l=>by have:=K8 l;have:1<=gM e:=by {cases e;simp [gM]};simp [T9];omega
theorem aV:∀(l:List Ex) (i:Nat) (h:i<l.length),gM l[i]<=T9 l
 | e::l,0,h=>by simp [T9]
 | e::l,i+1,h=>by have:=aV l i (by simpa using h);simp [T9];omega
theorem OE (d:Nat)(a:List Ex)(c:d<=100)(h:T9 a<=10000):Small (zX d a):=by
 have w:=vM a d;refine⟨by have:=w.len;have:=K8 a;omega,λx b=>⟨?_,?_⟩⟩;have:=SA _ x b;have:=w.le;omega
 have:=w.lv x b;omega
def C76 (K:Known)(n fu d:Nat):Prop:=∀(m:Mem) (v:d9) (a:List Ex),m.Ok->m.lim<=m.nx->fB m (λ_=>True) a v->T9 a<=10000->
 ∃out m',l7 K fu n (.func 63) [v,iV (d:Int)] m=some [⟨out,m'⟩]∧Ext m m'∧gT m.nx 2 m' out (iU (zX d a))
theorem XR {n fu d:Nat}(D:d<=100)(F:20000<=fu)(j:C76 KW (n+1) fu d){m:Mem}(q:m.Ok)(o:m.lim<=m.nx){row:List d9}{e:Ex}(h:R7 m (λ_=>True) e row)(hp:gM e<=10000):
  ∃m',l7 KW fu (n+2) (.func 28) [.agg row,iV (d:Int)] m=some [⟨.agg (D9 (bE d e)),m'⟩]∧Ext m m':=by
 obtain⟨k,s,u,a⟩:=e;obtain⟨v,f,rfl,i,A⟩:=h;rw [gM] at hp;have C:=i.slice.u7;have l:=i.slice.cells;have E:=G6 q [l9 (r4 k s u v),l9 [iV 0,iV 0]];obtain⟨t,H,x,E1,O1⟩:=j (ext m [l9 (r4 k s u v),l9 [iV 0,iV 0]]) v a E.ok (by rw [E.lim];exact aA o E.nx) (fB.ext ⟨f,i,A⟩ E) (by omega);have w:=OE d a D (by omega);obtain⟨c,y,E2⟩:=Ll E1.ok (by rw [E1.lim,E.lim];exact aA o (aA E.nx E1.nx)) (1,1) (zX d a) w O1.slice (by simp) (by simp) n fu (by have:=w.1;have:=(vM a d).len;have:=K8 a;omega);have g:l7 KW fu (n+1) (.func 62) [.agg [iV 1,iV 1],t] H=_:=y;have b:m.nx+1<c.nx:=gq (by simp) (aA E1.nx E2.nx);have p:c.lim<=m.nx+1:=by rw [E2.lim,E1.lim,E.lim];omega
 have J:=sB p;have G:c.get (m.nx+1)=some (l9 [iV 0,iV 0]):=by rw [E2.old _ (gq (by simp) E1.nx),E1.old _ (by simp),I7 q];rfl
 have z:∀B,(c.set (m.nx+1) B).get (m.nx+1)=some B:=λB=>I8 E2.ok _ b rfl;have I:=HZ O1.slice;refine⟨c.set (m.nx+1) (l9 (D9 (bE d (.mk k s u a)))),?_,(E.trans (E1.trans E2)).set b (by omega) _⟩;rw [enter (sf:=f28) rfl rfl];rw [bE];generalize gY (1,1) (zX d a)=r at *;obtain⟨K,L⟩:=r;simp only [D9] at *;simp [f28,P6 q o,u7,C,l,x,g,J,G,z,I]
theorem aaZ {n fu d:Nat}(hd:d<=100)(H:20000<=fu)(C:C76 KW (n+1) fu d){m:Mem}(hm:m.Ok)(V:m.lim<=m.nx){v:d9}{rows:List (List d9)}(a:List Ex)(T:eD m (λ_=>True) 4 v rows)(U:A9 m (λ_=>True) a rows)(hp:T9 a<=10000):
  ∀(j i:Nat),i+j=a.length->∀(acc:List (Nat×Nat)) (c3 c6 out x8 x9:d9) (M:Mem) (N:Nat),Ext m M->gT m.nx 2 M out (iU acc)->acc.length<=i->j+1<=N->
  ∃c3' c6' out' x8' x9' M',C8 (λenv m k=>FW (l7 KW fu (n+2)) fu none env m k) N (fT v (iV (i:Int)) (iV (a.length:Int)) c3 v (.int .i64 ((d:Int)+1)) c6 out x8 x9 nS) M []=some [⟨.exit 0,(fT v (iV (a.length:Int)) (iV (a.length:Int)) c3' v (.int .i64 ((d:Int)+1)) c6' out' x8' x9' nS),M',[],none⟩]∧
   Ext m M'∧gT m.nx 2 M' out' (iU (acc++zX (d+1) (a.drop i))):=by
 have q:=A9.len U;have z:=T.slice.len;rw [q] at z;have a0:=K8 a;intro j;induction j with
 | zero=>
  intro i B acc c3 c6 out x8 x9 M N E O F hN;obtain⟨N,rfl⟩:∃k,N=k+1:=⟨N-1,by omega⟩;obtain rfl:i=a.length:=by omega
  refine⟨.bool false,c6,out,x8,x9,M,?_,E,?_⟩;rw [o7];simp [FW];rw [aaJ,zX,aiN];exact O
 | succ j ih=>
  intro i B acc c3 c6 out x8 x9 M N E O F hN;obtain⟨N,rfl⟩:∃k,N=k+1:=⟨N-1,by omega⟩;have h:i<a.length:=by omega
  have l:i<rows.length:=by omega
  have D:=E.ok;have p:M.lim<=M.nx:=by rw [E.lim];exact aA V E.nx
  obtain⟨a7,o1,Y,a2,a3,Z,a5⟩:=(T.slice.ext E).at l;have o:=A9.get U i h l;have J:=o.row;have y:=Z 0 4 (by omega) (by omega);rw [q8,W9 (by omega),Y1] at y;have G:a.drop i=a[i]::a.drop (i+1):=Xd h;have a6:=aV a i h;have u:R7 M (λ_=>True) a[i] rows[i]:=FX E o;generalize hX:a[i]=X at *;generalize hR:rows[i]=R at *;have E1:=G6 D [l9 R];obtain⟨x,P,E2⟩:=XR hd H C E1.ok (by rw [E1.lim];exact aA p E1.nx) (e:=X) (row:=R) (FX E1 u) (by omega);have hs:(bE d X).1<=gM X∧(bE d X).2<=21+d:=⟨(Sy X d).2.2.1,(Sy X d).2.2.2⟩;generalize hb:bE d X=b at *;obtain⟨f,c⟩:=b;simp only at hs;have s:=E2.ok;have I:x.lim<=x.nx:=by rw [E2.lim,E1.lim];exact aA p (aA E1.nx E2.nx)
  have E3:=G6 s [l9 (D9 (f,c)),l9 (D9 (f,c+1))];have hx:dW (ext x [l9 (D9 (f,c)),l9 (D9 (f,c+1))]) 2 (.slice (x.nx+1) 0 1 1) [D9 (f,c+1)]:=by have:=Bp (yD s [l9 (D9 (f,c))]) (D9 (f,c+1)) (by simp [D9]);exact this
  have O3:=((O.ext E1).ext E2).ext E3;have Eall:=E.trans (E1.trans (E2.trans E3));obtain⟨v5,M5,Q,t,F5,W⟩:=Xy (lo:=m.nx) (rs:=2) (bytes:=16) (r:=D9 (f,c+1)) E3.ok (by rw [Eall.lim];exact V) Eall.nx (by omega) O3 hx (by simp [D9]) (by simp [D9,u7]) (by rw [yK];omega) ⟨by omega,by omega⟩;have po:=HZ t.slice;have w:iU acc ++ [D9 (f,c+1)]=iU (acc ++ [(f,c+1)]):=by simp [iU]
  rw [w] at t;have EM5:Ext m M5:=⟨F5.ok,aA Eall.nx F5.nx,F5.lim.trans Eall.lim,λi B=>(F5.old i B (by omega)).trans (Eall.old i B)⟩;obtain⟨c3',c6',out',x8',x9',M',S,q1,q2⟩:=ih (i+1) (by omega) (acc ++ [(f,c+1)]) tt ff v5 (.ptr M.nx 0) (.ptr x.nx 0) M5 N EM5 t (by simp;omega) (by omega);refine⟨c3',c6',out',x8',x9',M',?_,q1,?_⟩;obtain⟨x1,x2,x3,x4,x5,x6⟩:=uh D p;obtain⟨y1,y2,y3,y4,y5,y6⟩:=uh s I;have gR:x.get M.nx=some (l9 R):=by rw [E2.old _ (by simp),r9 D];rfl
  have w2:iP ((c:Int)+1)=(c:Int)+1:=K6 (by omega) (by omega);have w3:iP (d:Int)=(d:Int):=K6 (by omega) (by omega);have ed:decide ((d:Int)+1<=0)=false:=decide_eq_false (by omega);obtain⟨g,A⟩:=J;have L:vC (some (l9 (r4 0 0 [] nS))) 0 R=some (l9 R):=by rw [eX (by simp [g]) (by simp)];simp [g]
  have K:Gw (some (l9 R)) 0 4=some (.agg R):=by rw [eU (by omega) (by omega),q8,W9 (by omega)]
  simp only [D9,show ((c+1:Nat):Int)=(c:Int)+1 from rfl] at Q P S ⊢;rw [o7,← S];simp [FW,G9,H9,x1,x2,x3,x4,x5,x6,y1,y2,y3,y4,y5,y6,u7,Y,y,h,g,A,L,K,P,gR,w2,w3,ed,Q,po,bs2,L6 (i:=i) (by omega)];rw [G,zX,hb];simpa using q2
theorem aeZ (n fu:Nat)(C:20000<=fu):∀d:Nat,d<=100->C76 KW (n+2*d+1) fu d:=by
 intro d;induction d with
 | zero=>
  intro U m v a j s h K;obtain⟨o,u,l⟩:=h;have b:=A9.len l;have c:=u.slice.len;rw [b] at c;match a,l with
  | [],l=>refine⟨nS,m,?_,Ext.refl j,gT.nil _ _ _⟩;obtain⟨fu,rfl⟩:∃k,fu=k+1:=⟨fu-1,by omega⟩;rw [enter (sf:=f63) rfl rfl];simp [f63,FW,o7,P6 j s,u7,c]
  | e::a,l=>
   obtain⟨F,W,N,a2,a3,O,a5⟩:=u.slice.at (i:=0) (by rw [b];simp);have y:=A9.get l 0 (by simp) (by rw [b];simp);have E:=y.row;have t:=O 0 4 (by omega) (by omega);rw [q8,W9 (by omega),Y1] at t;generalize hR:o[0]'(by rw [b];simp)=R at *;have E3:=G6 j [l9 R,l9 (D9 (0,21))];have V:dW (ext m [l9 R,l9 (D9 (0,21))]) 2 (.slice (m.nx+1) 0 1 1) [D9 (0,21)]:=by have:=Bp (yD j [l9 R]) (D9 (0,21)) (by simp [D9]);exact this
   obtain⟨Y,M5,I,w,F5,L⟩:=Xy (lo:=m.nx) (rs:=2) (bytes:=16) (r:=D9 (0,21)) E3.ok (by rw [E3.lim];exact s) E3.nx (by omega) (gT.nil _ _ _) V (by simp [D9]) (by simp [D9,u7]) (by simp) ⟨by omega,by omega⟩;have G:=HZ w.slice;refine⟨Y,M5,?_,⟨F5.ok,aA E3.nx F5.nx,F5.lim.trans E3.lim,λi J=>(F5.old i J (by omega)).trans (E3.old i J)⟩,by simpa [zX,iU] using w⟩;obtain⟨f,x⟩:=E;have H:vC (some (l9 (r4 0 0 [] nS))) 0 R=some (l9 R):=by rw [eX (by simp [f]) (by simp)];simp [f]
   obtain⟨fu,rfl⟩:∃k,fu=k+1:=⟨fu-1,by omega⟩;have D:(0:Int)<((a.length:Int)+1):=by omega
   rw [enter (sf:=f63) rfl rfl];simp only [D9,show ((0:Nat):Int)=0 from rfl,show ((21:Nat):Int)=21 from rfl] at I ⊢;have A:rO v none (λid q p _=>if 0<p then some (d9.ptr id q) else none) (λid q p _=>if 0<p then some (d9.ptr id q) else none)=some (.ptr F W):=by simpa using N
   simp [f63,FW,o7,P6 j s,u7,c,D,A,t,f,x,H,I,G,bs2]
 | succ d ih=>intro U m v a j s h K;obtain⟨o,u,l⟩:=h;have b:=A9.len l;have c:=u.slice.len;rw [b] at c;have T:=K8 a;obtain⟨P,Q,z,Z,a0,M',g,X,M⟩:=aaZ (n:=n+2*d) (fu:=fu) (d:=d) (by omega) C (ih (by omega)) j s a u l K a.length 0 (by omega) [] .undef .undef nS .undef .undef m fu (Ext.refl j) (gT.nil _ _ _) (by simp) (by omega);have S:C8 (λB m k=>FW (l7 KW fu (n+2*d+2)) fu none B m k) fu (fT v (iV 0) (iV (a.length:Int)) .undef v (.int .i64 ((d:Int)+1)) .undef nS .undef .undef nS) m []=_:=g;refine⟨z,M',?_,X,by simpa using M⟩;have G:=HZ M.slice;rw [show n+2*(d+1)+1=(n+2*d+2)+1 from by omega,enter (sf:=f63) rfl rfl];simp [f63,P6 j s,u7,c,S,G]
theorem XT (n fu d:Nat)(a:20000<=fu)(b:d<=100)(c:2*d+1<=n):C76 KW n fu d:=by
 have:=aeZ (n-(2*d+1)) fu a d b
 rwa [show n-(2*d+1)+2*d+1=n from by omega] at this
theorem O4.ext {m m':Mem}{S:Nat->Prop}{a:List V7}{v:d9}(h:O4 m S a v)(e:Ext m m'):O4 m' S a v:=by obtain⟨b,d,f⟩:=h;exact⟨b,d.mono e.nx (λi c _=>e.old i c) λ_ _ h=>h,H6.mono e.nx (λi c _=>e.old i c) (λ_ _ h=>h) a b f⟩
theorem U0:∀l:List V7,l.length<=U2 l
 | []=>by simp
 | e::l=>by have:=U0 l;have:1<=stP e:=by {cases e;simp [stP];omega};simp [U2];omega
theorem jf:∀(l:List V7) (i:Nat) (h:i<l.length),stP l[i]<=U2 l
 | e::l,0,h=>by simp [U2]
 | e::l,i+1,h=>by have:=jf l i (by simpa using h);simp [U2];omega
theorem XU (l:List V7)(d:Nat):(bS d l).1<=U2 l∧(bS d l).2<=21+d:=⟨(JC l d).2.2.1,(JC l d).2.2.2⟩
theorem Lm {x i:OF}{ls:List d9}{env:T d9}{a b:d9}(e:x ls env=.agg [a,b])(d:i ls env=.int .i64 0):Ao 1 2 x i ls env=some a:=by show uo (x ls env) (λc=>idx 2 (i ls env) λk=>pI (Nat.mul k 1) c)=_;rw [e,d];rfl
theorem SE {x i:OF}{ls:List d9}{env:T d9}{a b:d9}(e:x ls env=.agg [a,b])(d:i ls env=.int .i64 1):Ao 1 2 x i ls env=some b:=by show uo (x ls env) (λc=>idx 2 (i ls env) λk=>pI (Nat.mul k 1) c)=_;rw [e,d];rfl
theorem QN (a b c:Nat×Nat):comb (comb a b) c=comb a (comb b c):=by simp only [comb,ah9];omega
def C35 (K:Known)(n fu d:Nat):Prop:=∀(m:Mem) (v:d9) (l:List V7),m.Ok->m.lim<=m.nx->O4 m (λ_=>True) l v->U2 l<=10000->
 ∃m',l7 K fu n (.func 133) [v,iV (d:Int)] m=some [⟨.agg (D9 (bS d l)),m'⟩]∧Ext m m'
theorem Cz {n fu d:Nat}(hd:d<=100)(a1:20000<=fu)(F:C35 KW (n+1) fu d){M:Mem}(hM:M.Ok){q:Nat}(u:q<M.nx)(t:M.lim<=q){s:Nat×Nat}(hg:M.get q=some (l9 (D9 s)))(L:s.1<=100000)(O:s.2<=1000)
  {vt vf y:d9} {i:Nat} {b:List V7} (z:i<2) (hb:[vt,vf][i]?=some y) (v:O4 M (λ_=>True) b y) (hp:U2 b<=10000) (S T U V W X Y Z E P Q j:d9) (N:Nat):
  ∃x14' M',C8 (λenv m k=>yE (l7 KW fu (n+1)) fu none env m k) (N+1) (kI S T U V W (.int .i64 ((d:Int)+1)) X Y Z (iV (i:Int)) E (.agg [vt,vf]) P (.ptr q 0) Q j) M []=C8 (λenv m k=>yE (l7 KW fu (n+1)) fu none env m k) N (kI S T U V W (.int .i64 ((d:Int)+1)) X Y Z (.int .i64 ((i+1:Nat):Int)) tt (.agg [vt,vf]) y (.ptr q 0) x14' j) M' []∧
   At q M M'∧M'.get q=some (l9 (D9 (comb s ((bS d b).1,(bS d b).2+1)))):=by
 obtain⟨g,g1,E1⟩:=F M y b hM (by omega) v hp;obtain⟨G,H⟩:=XU b d;generalize hB:bS d b=B at *;obtain⟨e,c⟩:=B;obtain⟨C,D⟩:=s;simp only at G H L O;have f:=E1.ok;have r:g.lim<=g.nx:=by rw [E1.lim];have:=E1.nx;omega
 have E2:=G6 f [l9 (D9 (e,c)),l9 (D9 (e,c+1))];have w:dW (ext g [l9 (D9 (e,c)),l9 (D9 (e,c+1))]) 2 (.slice (g.nx+1) 0 1 1) (iU [(e,c+1)]):=by have:=Bp (yD f [l9 (D9 (e,c))]) (D9 (e,c+1)) (by simp [D9]);exact this
 obtain⟨A,g3,E3⟩:=Ll E2.ok (by rw [E2.lim];exact aA r E2.nx) (C,D) [(e,c+1)] ⟨by simp,by simp;omega⟩ w (by simp only;omega) (by simp only;omega) n fu (by simp;omega);have Eall:=E1.trans (E2.trans E3);have J:q<A.nx:=gq u Eall.nx;have I:A.lim<=q:=by rw [Eall.lim];exact t
 have st:=sB I;have l:A.get q=some (l9 (D9 (C,D))):=(Eall.old q u).trans hg;have o:(ext g [l9 (D9 (e,c))]).get q=some (l9 (D9 (C,D))):=by rw [R9 f _ (gq u E1.nx),E1.old q u,hg]
 refine⟨.ptr g.nx 0,A.set q (l9 (D9 (comb (C,D) (e,c+1)))),?_,((At.start hM u t).nx Eall).set _,I8 Eall.ok _ J rfl⟩;obtain⟨y1,y2,y3,y4,y5,y6⟩:=uh f r;have w2:iP ((c:Int)+1)=(c:Int)+1:=K6 (by omega) (by omega);have w3:iP (d:Int)=(d:Int):=K6 (by omega) (by omega);have K:∀(R:Type) (p:d9->R) (q:R),bC y p q=q:=λR p q=>by obtain⟨a0,h,_⟩:=v;exact h.slice.kP p q
 have q0:=λx i ls env w z=>Lm (x:=x) (i:=i) (ls:=ls) (env:=env) (a:=vt) (b:=vf) w z;have q1:=λx i ls env w z=>SE (x:=x) (i:=i) (ls:=ls) (env:=env) (a:=vt) (b:=vf) w z;rcases i with _ | _ | i
 rotate_left 2
 omega;all_goals
  obtain rfl:=Y5 hb;simp only [D9,gY,List.foldl,comb,show ((c+1:Nat):Int)=(c:Int)+1 from rfl] at g1 g3 l o ⊢;rw [o7];simp [yE,G9,H9,y1,y2,y3,y4,y5,y6,u7,bs2,g1,g3,l,o,st,w2,w3,K,q0,q1,QM,show iP 1=1 from K6 (by decide) (by decide),show iP (1+1)=2 from K6 (by decide) (by decide),show iP 2=2 from K6 (by decide) (by decide)]
theorem QO {n fu d:Nat}(K:d<=100)(z:20000<=fu)(y:C35 KW (n+1) fu d){M:Mem}(Q:M.Ok){q:Nat}(L:q<M.nx)(A:M.lim<=q){s:Nat×Nat}(T:M.get q=some (l9 (D9 s)))(U:s.1<=20000)(V:s.2<=500)
  {vt vf:d9} {t f:List V7} (W:O4 M (λi=>i≠q) t vt) (S:O4 M (λi=>i≠q) f vf) (J:U2 t<=10000) (I:U2 f<=10000) (h j o p r u w x c e g b:d9) (N:Nat):
  ∃x12' x14' M',C8 (λenv m k=>yE (l7 KW fu (n+1)) fu none env m k) (N+3) (kI h j o p r (.int .i64 ((d:Int)+1)) u w x (iV 0) c (.agg [vt,vf]) e (.ptr q 0) g b) M []=some [⟨.exit 2,(kI h j o p r (.int .i64 ((d:Int)+1)) u w x (iV 2) ff (.agg [vt,vf]) x12' (.ptr q 0) x14' b),M',[],none⟩]∧
   At q M M'∧M'.get q=some (l9 (D9 (comb (comb s ((bS d t).1,(bS d t).2+1)) ((bS d f).1,(bS d f).2+1)))):=by
 have B:∀(m:Mem) (l:List V7) (v:d9),O4 m (λi=>i≠q) l v->O4 m (λ_=>True) l v:=λm l v ⟨a,D,E⟩=>⟨a,D.mono (q9 _) (λ_ _ _=>rfl) λ_ _ _=>trivial,H6.mono (q9 _) (λ_ _ _=>rfl) (λ_ _ _=>trivial) l a E⟩;obtain⟨X,M1,O,A1,G1⟩:=Cz (vt:=vt) (vf:=vf) (i:=0) K z y Q L A T (by omega) (by omega) (by omega) rfl (B _ _ _ W) J h j o p r u w x c e g b (N+2);have F:O4 M1 (λ_=>True) f vf:=by obtain⟨a,D,E⟩:=S;exact⟨a,D.mono A1.fr.nx (λi G H=>A1.fr.old i G H) λ_ _ _=>trivial,H6.mono A1.fr.nx (λi G H=>A1.fr.old i G H) (λ_ _ _=>trivial) f a E⟩
 have R:=XU t d;obtain⟨Y,M2,P,A2,G2⟩:=Cz (vt:=vt) (vf:=vf) (i:=1) K z y A1.ok A1.DK A1.lim G1 (by simp only [comb];omega) (by simp only [comb];omega) (by omega) rfl F I h j o p r u w x tt vt X b (N+1);have C:C8 (λenv m k=>yE (l7 KW fu (n+1)) fu none env m k) (N+3) (kI h j o p r (.int .i64 ((d:Int)+1)) u w x (iV 0) c (.agg [vt,vf]) e (.ptr q 0) g b) M []=_:=O;refine⟨vf,Y,M2,?_,⟨L,A,A1.fr.trans (A2.fr.down A1.fr.nx)⟩,G2⟩;rw [C,P,o7];simp [yE]
theorem QS {n fu d:Nat}(hd:d<=100)(ah:20000<=fu)(a8:C35 KW (n+1) fu d)(a9:C76 KW (n+1) fu d){m:Mem}{p:Nat}(hm:m.Ok)(hp:p+1<m.nx)(hl:m.lim<=p){v:d9}{rows:List (List d9)}(l:List V7)(h1:eD m (λi=>i<p) 5 v rows)(h2:H6 m (λi=>i<p) l rows)(aw:U2 l<=10000):
  ∀(j i:Nat),i+j=l.length->∀(s:Nat×Nat) (c3 c6 x8 x9 c10 x11 x12 x13 x14:d9) (M:Mem) (N:Nat),At (p+1) m M->M.get (p+1)=some (l9 (D9 s))->s.1<=10000*i->s.2<=1000->j+1<=N->
  ∃c3' c6' x8' x9' c10' x11' x12' x13' x14' M',C8 (λenv m k=>yF (l7 KW fu (n+1)) fu none env m k) N (kI v (iV (i:Int)) (iV (l.length:Int)) c3 v (.int .i64 ((d:Int)+1)) c6 (.ptr p 0) x8 x9 c10 x11 x12 x13 x14 (.ptr (p+1) 0)) M [] =
   some [⟨.exit 0,(kI v (iV (l.length:Int)) (iV (l.length:Int)) c3' v (.int .i64 ((d:Int)+1)) c6' (.ptr p 0) x8' x9' c10' x11' x12' x13' x14' (.ptr (p+1) 0)),M',[],none⟩]∧At (p+1) m M'∧M'.get (p+1)=some (l9 (D9 (comb s (bS (d+1) (l.drop i))))):=by
 have D:=H6.len h2;have Y:=h1.slice.len;rw [D] at Y;have au:=U0 l;intro j;induction j with
 | zero=>
  intro i c s c3 c6 x8 x9 c10 x11 x12 x13 x14 M N b hg al am hN;obtain⟨N,rfl⟩:∃k,N=k+1:=⟨N-1,by omega⟩;obtain rfl:i=l.length:=by omega
  refine⟨.bool false,c6,x8,x9,c10,x11,x12,x13,x14,M,?_,b,?_⟩;rw [o7];simp [yF];rw [aaJ,bS,hg];simp [comb]
 | succ j ih=>
  intro i c s c3 c6 x8 x9 c10 x11 x12 x13 x14 M N b hg al am hN;obtain⟨N,rfl⟩:∃k,N=k+1:=⟨N-1,by omega⟩;have u:i<l.length:=by omega
  have w:i<rows.length:=by omega
  have hM:=b.ok;have ab:=b.Aa;have pr:∀i,i<m.nx->i<p->M.get i=m.get i:=λi c hq=>b.fr.old i c (by omega);obtain⟨b0,o1,a1,a2,a3,a4,a5⟩:=(eD.mono h1 b.fr.nx pr (S':=λi=>i<p) λ_ _ h=>h).slice.at w;have x:=H6.get h2 i u w;have ax:=x.row;have O:=a4 0 5 (by omega) (by omega);rw [q8,W9 (by omega),Y1] at O;have ae:l.drop i=l[i]::l.drop (i+1):=Xd u;have ak:=jf l i u;have E:ig M (λi=>i<p) l[i] rows[i]:=ig.mono b.fr.nx pr (λ_ _ h=>h) _ _ x;generalize hX:l[i]=X at *;generalize hR:rows[i]=R at *;obtain⟨I,J,e,t,f⟩:=X;obtain⟨ve,L,K,re,rt,rf,rfl,A,af,F,an,C,ag⟩:=E;rw [stP] at ak;have E1:=G6 hM [l9 (r5 I J ve L K)];have Q:=b.nx E1;obtain⟨ao,m2,g2,E2,O2⟩:=a9 (ext M [l9 (r5 I J ve L K)]) ve e E1.ok Q.Aa
   ⟨re,A.mono E1.nx (λi c _=>E1.old i c) λ_ _ _=>trivial,A9.mono E1.nx (λi c _=>E1.old i c) (λ_ _ _=>trivial) _ _ af⟩ (by omega)
  have S:=Q.nx E2;have sm:=OE d e hd (by omega);have az:=(vM e d).len;have ar:=K8 e;obtain⟨y,g3,E3⟩:=Ll E2.ok S.Aa (1,1) (zX d e) sm O2.slice (by simp) (by simp) n fu (by omega);have z:=S.nx E3;have ay:(gY (1,1) (zX d e)).1<=1+T9 e∧(gY (1,1) (zX d e)).2<=21+d:=⟨(zY (vM e d)).2.2.1,(zY (vM e d)).2.2.2⟩;generalize hW:gY (1,1) (zX d e)=W at *;have E4:=G6 E3.ok [l9 (D9 W)];have T:=z.nx E4;have E14:=E1.trans (E2.trans (E3.trans E4));have av:M.nx<=y.nx:=aA E1.nx (aA E2.nx E3.nx);have Z:M.nx<y.nx:=gq (by simp) (aA E2.nx E3.nx);have tr:∀(l:List V7) (v:d9) (rows:List (List d9)),eD M (λi=>i<p) 5 v rows->H6 M (λi=>i<p) l rows->O4 (ext y [l9 (D9 W)]) (λi=>i≠y.nx) l v:=λl v rows x1 x2=>⟨rows,x1.mono E14.nx (λi c _=>E14.old i c) λi _ h=>by have:=b.DK;omega,H6.mono E14.nx (λi c _=>E14.old i c) (λi _ h=>by have:=b.DK;omega) _ _ x2⟩
  obtain⟨N2,ac⟩:∃k,fu=k+3:=⟨fu-3,by omega⟩;obtain⟨x12',x14',m5,g5,a,G5⟩:=QO hd ah a8 E4.ok (q:=y.nx) (by simp) (by rw [E4.lim];exact z.Aa) (s:=W) (by rw [r9 E3.ok];rfl) (by omega) (by omega) (tr t L rt F an) (tr f K rf C ag) (by omega) (by omega)
   v (iV (i:Int)) (iV (l.length:Int)) tt v ff (.ptr p 0) (.ptr M.nx 0) c10 x12 x14 (.ptr (p+1) 0) N2
  rw [← ac] at g5;have aq:=XU t d;have ap:=XU f d;have U:(bSt (d+1) (.mk I J e t f))=comb (comb W ((bS d t).1,(bS d t).2+1)) ((bS d f).1,(bS d f).2+1):=by rw [bSt,← hW];rfl
  have ad:(comb (comb W ((bS d t).1,(bS d t).2+1)) ((bS d f).1,(bS d f).2+1)).1<=10000∧(comb (comb W ((bS d t).1,(bS d t).2+1)) ((bS d f).1,(bS d f).2+1)).2<=1000:=by simp only [comb];omega
  rw [← U] at G5 ad;generalize hB:bSt (d+1) (.mk I J e t f)=B at *;have r:=a.ok;have V:m5.lim<=m5.nx:=a.Aa;have a0:m5.get (p+1)=some (l9 (D9 s)):=by have h0:p+1<M.nx:=b.DK;rw [a.fr.old _ (by simp;omega) (by omega),R9 E3.ok _ (by omega),E3.old _ (by have:=E2.nx;simp at this;omega),E2.old _ (by simp;omega),R9 hM _ h0,hg]
  have E6:=G6 r [l9 (D9 B)];have hx:dW (ext m5 [l9 (D9 B)]) 2 (.slice m5.nx 0 1 1) (iU [B]):=Bp r (D9 B) (by simp [D9]);obtain⟨m7,g7,E7⟩:=Ll E6.ok (by rw [E6.lim];exact aA V E6.nx) s [B] ⟨by simp,by simp;omega⟩ hx (by omega) (by omega) n fu (by simp;omega);have g:At (p+1) m m5:=⟨b.lt,b.limp,T.fr.trans ⟨a.ok,a.fr.nx,a.fr.lim,λi c hn=>a.fr.old i (by have:=T.fr.nx;omega) (by have:=b.fr.nx;omega)⟩⟩;have o:=(g.nx E6).nx E7;have aa:=o.set (l9 (D9 (comb s B)));obtain⟨c3',c6',x8',x9',c10',x11',G,x13',H,M',gg,q1,q2⟩:=ih (i+1) (by omega) (comb s B) tt ff (.ptr M.nx 0) (iV 2) ff (.agg [L,K]) x12' (.ptr y.nx 0) x14' (m7.set (p+1) (l9 (D9 (comb s B)))) N aa (I8 o.ok _ o.DK rfl) (by simp only [comb];omega) (by simp only [comb];omega) (by omega);refine⟨c3',c6',x8',x9',c10',x11',G,x13',H,M',?_,q1,?_⟩;obtain⟨x1,x2,x3,x4,x5,x6⟩:=uh hM ab;obtain⟨y1,y2,y3,y4,y5,y6⟩:=uh E3.ok z.Aa;obtain⟨z1,z2,z3,z4,z5,z6⟩:=uh r V;have aj:m7.lim<=p+1:=o.lim;have st:=sB aj;have ai:m7.get (p+1)=some (l9 (D9 s)):=by rw [E7.old _ (by have:=g.DK;simp;omega),R9 r _ g.DK,a0]
  have P:y.get M.nx=some (l9 (r5 I J ve L K)):=by rw [E3.old _ (gq (by simp) E2.nx),E2.old _ (by simp),r9 hM];rfl
  have a7:(ext y [l9 (D9 W)]).get M.nx=some (l9 (r5 I J ve L K)):=by rw [R9 E3.ok _ Z,P]
  have w3:iP (d:Int)=(d:Int):=K6 (by omega) (by omega);have ed:decide ((d:Int)+1<=0)=false:=decide_eq_false (by omega);have ce:=A.slice.cells;have ct:=F.slice.cells;have cf:=C.slice.cells;have oe:=A.slice.u7;have ot:=F.slice.u7;have of:=C.slice.u7;have po:=HZ O2.slice;obtain⟨W1,W2⟩:=W;obtain⟨B1,B2⟩:=B;obtain⟨s1,s2⟩:=s;simp only [D9,gY,List.foldl,comb,Y1] at *;have a6:l7 KW fu (n+1) (.func 62) [.agg [iV 1,iV 1],ao] m2=_:=g3;rw [o7,← gg];simp [yF,G9,H9,x1,x2,x3,x4,x5,x6,y1,y2,y3,y4,y5,y6,z1,z2,z3,z4,z5,z6,bs2,a1,O,u,ce,ct,cf,oe,ot,of,g2,a6,g5,g7,G5,a0,st,ai,P,a7,w3,ed,po,QM,L6 (i:=i) (by omega)];rw [ae,bS,hB,← QN];exact q2
theorem af0 (fu:Nat)(w:20000<=fu):∀d n:Nat,d<=100->C35 KW (n+2*d+2) fu d:=by
 intro d;induction d with
 | zero=>
  intro n hd m v a j x h P;obtain⟨rows,u,o⟩:=h;have b:=H6.len o;have c:=u.slice.len;rw [b] at c;obtain⟨fu,rfl⟩:∃k,fu=k+1:=⟨fu-1,by omega⟩;match a,o with
  | [],o=>refine⟨ext m [l9 (D9 (0,0)),l9 (D9 (0,0))],?_,G6 j _⟩;rw [enter (sf:=f133) rfl rfl];simp [f133,yF,o7,P6 j x,u7,c,bS,D9]
  | e::a,o=>
   obtain⟨id1,o1,U,V,a3,W,a5⟩:=u.slice.at (i:=0) (by rw [b];simp);have z:=H6.get o 0 (by simp) (by rw [b];simp);have K:=z.row;have t:=W 0 5 (by omega) (by omega);rw [q8,W9 (by omega),Y1] at t;generalize hR:rows[0]'(by rw [b];simp)=R at *;refine⟨ext m [l9 (D9 (0,21)),l9 (D9 (0,0)),l9 R],?_,G6 j _⟩;obtain⟨f,y⟩:=K;have L:vC (some (l9 (r5 0 [] nS nS nS))) 0 R=some (l9 R):=by rw [eX (by simp [f]) (by simp)];simp [f]
   have l:(0:Int)<((a.length:Int)+1):=by omega
   have g4:(ext m [l9 [iV 0,iV 0],l9 [iV 0,iV 0]]).get id1=m.get id1:=R9 j _ V;have C:rO v none (λid s q _=>if 0<q then some (d9.ptr id s) else none) (λid s q _=>if 0<q then some (d9.ptr id s) else none)=some (.ptr id1 o1):=by simpa using U
   rw [enter (sf:=f133) rfl rfl];simp [f133,yF,o7,P6 j x,u7,c,l,C,t,f,y,L,g4,bS,D9]
 | succ d ih=>
  intro n hd m v a j x h P;obtain⟨rows,u,o⟩:=h;have b:=H6.len o;have c:=u.slice.len;rw [b] at c;have a0:=U0 a;have E:=G6 j [l9 (D9 (0,0)),l9 (D9 (0,0))];have hA:At (m.nx+1) (ext m [l9 (D9 (0,0)),l9 (D9 (0,0))]) _:=At.start E.ok (by simp) (by rw [E.lim];omega);have F:eD (ext m [l9 (D9 (0,0)),l9 (D9 (0,0))]) (λi=>i<m.nx) 5 v rows:=by have:=eD.mono (m':=ext m [l9 (D9 (0,0)),l9 (D9 (0,0))]) u E.nx (λi I _=>E.old i I) (S':=λi=>i<m.nx) λ_ h _=>h;exact this
  have G:H6 (ext m [l9 (D9 (0,0)),l9 (D9 (0,0))]) (λi=>i<m.nx) a rows:=H6.mono E.nx (λi I _=>E.old i I) (λ_ h _=>h) _ _ o;obtain⟨X,Y,a6,a7,O,S,M,T,N,M',g,A,Q⟩:=QS (d:=d) (n:=n+2*d+2) (p:=m.nx) (by omega) w (by have:=ih (n+1) (by omega);rwa [show n+1+2*d+2=n+2*d+2+1 from by omega] at this) (XT _ _ _ w (by omega) (by omega)) E.ok (by simp) (by rw [E.lim];exact x) a F G P a.length 0 (by omega) (0,0) .undef .undef .undef .undef .undef .undef .undef .undef .undef (_) fu hA (by rw [I7 j];rfl) (by simp) (by simp) (by omega);have Z:C8 (λD m k=>yF (l7 KW fu (n+2*d+3)) fu none D m k) fu (kI v (iV 0) (iV (a.length:Int)) .undef v (.int .i64 ((d:Int)+1)) .undef (.ptr m.nx 0) .undef .undef .undef .undef .undef .undef .undef (.ptr (m.nx+1) 0)) (ext m [l9 [iV 0,iV 0],l9 [iV 0,iV 0]]) []=_:=g;rw [q8,show comb (0,0) (bS (d+1) a)=bS (d+1) a from by simp [comb]] at Q;have H:M'.get m.nx=some (l9 [iV 0,iV 0]):=by rw [A.fr.old _ (by simp) (by omega),r9 j];rfl
  have l:m.nx<M'.nx:=gq (by simp) A.fr.nx;have J:M'.lim<=m.nx:=by have:=A.fr.lim;rw [E.lim] at this;omega
  have st:=sB J;have gs:∀B,(M'.set m.nx B).get m.nx=some B:=λB=>I8 A.ok _ l rfl;refine⟨M'.set m.nx (l9 (D9 (bS (d+1) a))),?_,(A.ext E (by omega)).set l (by omega) _⟩;generalize bS (d+1) a=r at *;obtain⟨r1,r2⟩:=r;simp only [D9] at *;rw [show n+2*(d+1)+2=(n+2*d+3)+1 from by omega,enter (sf:=f133) rfl rfl];simp [f133,P6 j x,u7,c,Z,H,Q,st,gs]
theorem ab0 (n fu d:Nat)(a:20000<=fu)(b:d<=100)(c:2*d+2<=n):C35 KW n fu d:=by
 have:=af0 fu a d (n-(2*d+2)) b
 rwa [show n-(2*d+2)+2*d+2=n from by omega] at this
theorem af2 {m:Mem}(x:m.Ok)(u:m.lim<=m.nx){v:d9}{l:List V7}(h:O4 m (λ_=>True) l v)(hp:U2 l<=10000)(n fu:Nat)(f:20000<=fu):
  ∃m',l7 KW fu (n+50) (.func 79) [v] m=some [⟨.tuple [.int .i64 (ni l).1,.int .i64 (ni l).2],m'⟩]∧Ext m m':=by
 obtain⟨j,w,E1⟩:=ab0 (n+49) fu 22 f (by omega) (by omega) m v l x u h hp;have y:=XU l 22;rw [← XP l];generalize bS 22 l=r at *;obtain⟨d,e⟩:=r;have b:=E1.ok;have g:j.lim<=j.nx:=by rw [E1.lim];exact aA u E1.nx
 obtain⟨k,o,p,q,s,t⟩:=uh b g;refine⟨ext j [l9 (D9 (d,e))],?_,E1.trans (G6 b _)⟩;have a:l7 KW fu (n+49) (.func 133) [v,iV 22] m=_:=w;rw [enter (sf:=f79) rfl rfl];simp only [D9] at *;by_cases h1:500<d;have c:decide ((500:Int)<(d:Int))=true:=decide_eq_true (by omega);simp [f79,G9,H9,k,o,p,q,s,t,a,c,h1];have c:decide ((500:Int)<(d:Int))=false:=decide_eq_false (by omega);by_cases h2:20<e;have i:decide ((20:Int)<(e:Int))=true:=decide_eq_true (by omega);simp [f79,G9,H9,k,o,p,q,s,t,a,c,i,h1,h2];have i:decide ((20:Int)<(e:Int))=false:=decide_eq_false (by omega);simp [f79,G9,H9,k,o,p,q,s,t,a,c,i,h1,h2]
def ab1 (K:Known)(n fu d:Nat):Prop:=∀(m:Mem) (row:List d9) (e:Ex),m.Ok->m.lim<=m.nx->R7 m (λ_=>True) e row->gM e<=10000->
 ∃m',l7 K fu n (.func 39) [.agg row,iV (d:Int)] m=some [⟨.agg (D9 (rE d e)),m'⟩]∧Ext m m'
theorem ab2 {n fu d:Nat}(a9:1<=d)(hd:d<=20)(aa:20000<=fu)(J:ab1 KW n fu (d+1)){m:Mem}{p:Nat}(hm:m.Ok)(hp:p+2<m.nx)(hl:m.lim<=p){k0 n0:Int}{s0:By}{v:d9}{rows:List (List d9)}(O:m.get p=some (l9 (r4 k0 n0 s0 v)))(l:List Ex)(V:eD m (λi=>i<p) 4 v rows)(h2:A9 m (λi=>i<p) l rows)(ad:T9 l<=10000):
  ∀(j i:Nat),i+j=l.length->∀(s:Nat×Nat) (c c6 x8:d9) (M:Mem) (N:Nat),At (p+2) m M->M.get (p+2)=some (l9 (D9 s))->s.1<=20000->s.2<=1000->j+1<=N->
  ∃xi c' c6' x8' M',C8 (λenv m k=>Cw (l7 KW fu n) fu none env m k) N (UU (.agg (r4 k0 n0 s0 v)) (iV (i:Int)) (.ptr p 0) (.ptr (p+2) 0) c (iV (d:Int)) c6 (.ptr (p+1) 0) x8) M [] =
   some [⟨.exit 0,(UU (.agg (r4 k0 n0 s0 v)) xi (.ptr p 0) (.ptr (p+2) 0) c' (iV (d:Int)) c6' (.ptr (p+1) 0) x8'),M',[],none⟩]∧At (p+2) m M'∧M'.get (p+2)=some (l9 (D9 (qx d (l.drop i) s))):=by
 have E:=A9.len h2;have f:=V.slice.len;rw [E] at f;have ab:=K8 l;intro j;induction j with
 | zero=>
  intro i hi s c c6 x8 M N g D Q S hN;obtain⟨N,rfl⟩:∃k,N=k+1:=⟨N-1,by omega⟩;obtain rfl:i=l.length:=by omega
  have e:M.get p=some (l9 (r4 k0 n0 s0 v)):=by rw [g.fr.old p (by omega) (by omega),O]
  refine⟨iV (l.length:Int),.bool false,c6,x8,M,?_,g,?_⟩;rw [o7];simp [Cw,e,f];rw [aaJ,qx,D]
 | succ j ih=>
  intro i hi s c c6 x8 M N g D Q S hN;obtain⟨N,rfl⟩:∃k,N=k+1:=⟨N-1,by omega⟩;have r:i<l.length:=by omega
  have u:i<rows.length:=by omega
  have w:(i:Int)<(l.length:Int):=by omega
  have hM:=g.ok;have Z:=g.Aa;have e:M.get p=some (l9 (r4 k0 n0 s0 v)):=by rw [g.fr.old p (by omega) (by omega),O]
  have K:l.drop i=l[i]::l.drop (i+1):=Xd r;rw [K,qx];by_cases h500:500<s.1;have h5:¬ (s.1:Int)<=500:=by omega
  obtain⟨t,U⟩:=s;simp only [D9] at D h5 h500;refine⟨iV (i:Int),.bool false,c6,x8,M,?_,g,?_⟩;have W:¬ t<=500:=by omega
  rw [o7];simp [Cw,e,D,f,r,w,h5,W];rw [if_pos h500];simpa [D9] using D;have pr:∀i,i<m.nx->i<p->M.get i=m.get i:=λi hi hq=>g.fr.old i hi (by omega);obtain⟨af,o1,a1,a2,a3,a4,a5⟩:=(eD.mono V g.fr.nx pr (S':=λi=>i<p) λ_ _ h=>h).slice.at u;have z:=A9.get h2 i r u;have ae:=z.row;have I:=a4 0 4 (by omega) (by omega);rw [q8,W9 (by omega),Y1] at I;have ac:=aV l i r;have F:R7 M (λ_=>True) l[i] rows[i]:=R7.mono g.fr.nx pr (λ_ _ _=>trivial) _ _ z;generalize hX:l[i]=X at *;generalize hR:rows[i]=R at *;obtain⟨m2,g2,E2⟩:=J M R X hM Z F (by omega);have hb:=Sz X (d+1) (by omega);have a0:(rE (d+1) X).1<=15000∧(rE (d+1) X).2<=50:=⟨by have:=hb.2.2.1;omega,by have:=hb.2.2.2;omega⟩;generalize hB:rE (d+1) X=B at *;obtain⟨G,H⟩:=B;obtain⟨t,U⟩:=s;simp only at a0 h500 Q S;have o:=g.nx E2;have E3:=G6 E2.ok [l9 (D9 (G,H))];have A:=o.nx E3;have Y:=A.set (l9 (D9 (t+G,max U (H+1))));obtain⟨a8,c',c6',x8',M',gg,q1,q2⟩:=ih (i+1) (by omega) (t+G,max U (H+1)) tt ff (.ptr m2.nx 0) _ N Y (I8 A.ok _ A.DK rfl) (by simp only;omega) (by simp only;omega) (by omega);refine⟨a8,c',c6',x8',M',?_,q1,?_⟩;obtain⟨y1,y2,y3,y4,y5,y6⟩:=uh E2.ok o.Aa;have P:m2.get (p+2)=some (l9 (D9 (t,U))):=(E2.old _ g.DK).trans D;have a6:(ext m2 [l9 (D9 (G,H))]).get (p+2)=some (l9 (D9 (t,U))):=by rw [R9 E2.ok _ o.DK,P]
  have so:=λ(β:Type) (l:List P8) (off:Nat) (vs:List d9) (k:Mem->Option β)=>zZ (β:=β) E2.ok o.DK o.lim l off vs k;have a7:(t:Int)<=500:=by omega
  have T:t<=500:=by omega
  have L:¬ (20:Int)<(d:Int):=by omega
  have C:¬ 20<d:=by omega
  have w1:iP ((d:Int)+1)=(d:Int)+1:=K6 (by omega) (by omega);have w2:iP ((H:Int)+1)=(H:Int)+1:=K6 (by omega) (by omega);have w3:iP ((t:Int)+(G:Int))=(t:Int)+(G:Int):=K6 (by omega) (by omega);have q:=λx y ls env a b hx hy=>DL (x:=x) (y:=y) (ls:=ls) (env:=env) (a:=a) (b:=b) hx hy;have cv:=V.slice.cells;simp only [D9,show ((d+1:Nat):Int)=(d:Int)+1 from rfl] at *;rw [o7,← gg];simp [Cw,G9,H9,y1,y2,y3,y4,y5,y6,e,D,f,r,w,a7,T,L,C,a1,I,g2,P,a6,so,w1,w2,w3,q,QM,L6 (i:=i) (by omega)];rw [if_neg h500,if_neg (by omega)];exact q2
theorem XV {n fu d:Nat}(a9:1<=d)(hd:d<=20)(aa:20000<=fu)(J:ab1 KW n fu (d+1)){m:Mem}{p:Nat}(hm:m.Ok)(hp:p+2<m.nx)(hl:m.lim<=p){k0:Int}{s0:By}{v vt vf:d9}{rows:List (List d9)}(O:m.get p=some (l9 (r5 k0 s0 v vt vf)))(l:List Ex)(V:eD m (λi=>i<p) 4 v rows)(h2:A9 m (λi=>i<p) l rows)(ad:T9 l<=10000):
  ∀(j i:Nat),i+j=l.length->∀(s:Nat×Nat) (c x8:d9) (M:Mem) (N:Nat),At (p+2) m M->M.get (p+2)=some (l9 (D9 s))->s.1<=20000->s.2<=1000->j+1<=N->
  ∃xi c' x8' M',C8 (λenv m k=>Bv (l7 KW fu n) fu none env m k) N (fT (.agg (r5 k0 s0 v vt vf)) (iV (d:Int)) ff (.ptr (p+1) 0) (iV (i:Int)) (.ptr p 0) (.ptr (p+2) 0) c x8 .undef .undef) M [] =
   some [⟨.exit 0,(fT (.agg (r5 k0 s0 v vt vf)) (iV (d:Int)) ff (.ptr (p+1) 0) xi (.ptr p 0) (.ptr (p+2) 0) c' x8' .undef .undef),M',[],none⟩]∧At (p+2) m M'∧M'.get (p+2)=some (l9 (D9 (Pm d (l.drop i) s))):=by
 have E:=A9.len h2;have f:=V.slice.len;rw [E] at f;have ab:=K8 l;intro j;induction j with
 | zero=>
  intro i hi s c x8 M N g D Q S hN;obtain⟨N,rfl⟩:∃k,N=k+1:=⟨N-1,by omega⟩;obtain rfl:i=l.length:=by omega
  have e:M.get p=some (l9 (r5 k0 s0 v vt vf)):=by rw [g.fr.old p (by omega) (by omega),O]
  refine⟨iV (l.length:Int),.bool false,x8,M,?_,g,?_⟩;rw [o7];simp [Bv,e,f];rw [aaJ,Pm,D]
 | succ j ih=>
  intro i hi s c x8 M N g D Q S hN;obtain⟨N,rfl⟩:∃k,N=k+1:=⟨N-1,by omega⟩;have r:i<l.length:=by omega
  have u:i<rows.length:=by omega
  have w:(i:Int)<(l.length:Int):=by omega
  have hM:=g.ok;have Z:=g.Aa;have e:M.get p=some (l9 (r5 k0 s0 v vt vf)):=by rw [g.fr.old p (by omega) (by omega),O]
  have K:l.drop i=l[i]::l.drop (i+1):=Xd r;rw [K,Pm];by_cases h500:500<s.1;have h5:¬ (s.1:Int)<=500:=by omega
  obtain⟨t,U⟩:=s;simp only [D9] at D h5 h500;refine⟨iV (i:Int),.bool false,x8,M,?_,g,?_⟩;have W:¬ t<=500:=by omega
  rw [o7];simp [Bv,e,D,f,r,w,h5,W];rw [if_pos h500];simpa [D9] using D;have pr:∀i,i<m.nx->i<p->M.get i=m.get i:=λi hi hq=>g.fr.old i hi (by omega);obtain⟨af,o1,a1,a2,a3,a4,a5⟩:=(eD.mono V g.fr.nx pr (S':=λi=>i<p) λ_ _ h=>h).slice.at u;have z:=A9.get h2 i r u;have ae:=z.row;have I:=a4 0 4 (by omega) (by omega);rw [q8,W9 (by omega),Y1] at I;have ac:=aV l i r;have F:R7 M (λ_=>True) l[i] rows[i]:=R7.mono g.fr.nx pr (λ_ _ _=>trivial) _ _ z;generalize hX:l[i]=X at *;generalize hR:rows[i]=R at *;obtain⟨m2,g2,E2⟩:=J M R X hM Z F (by omega);have hb:=Sz X (d+1) (by omega);have a0:(rE (d+1) X).1<=15000∧(rE (d+1) X).2<=50:=⟨by have:=hb.2.2.1;omega,by have:=hb.2.2.2;omega⟩;generalize hB:rE (d+1) X=B at *;obtain⟨G,H⟩:=B;obtain⟨t,U⟩:=s;simp only at a0 h500 Q S;have o:=g.nx E2;have E3:=G6 E2.ok [l9 (D9 (G,H))];have A:=o.nx E3;have Y:=A.set (l9 (D9 (t+G,max U (H+1))));obtain⟨a8,c',x8',M',gg,q1,q2⟩:=ih (i+1) (by omega) (t+G,max U (H+1)) tt (.ptr m2.nx 0) _ N Y (I8 A.ok _ A.DK rfl) (by simp only;omega) (by simp only;omega) (by omega);refine⟨a8,c',x8',M',?_,q1,?_⟩;obtain⟨y1,y2,y3,y4,y5,y6⟩:=uh E2.ok o.Aa;have P:m2.get (p+2)=some (l9 (D9 (t,U))):=(E2.old _ g.DK).trans D;have a6:(ext m2 [l9 (D9 (G,H))]).get (p+2)=some (l9 (D9 (t,U))):=by rw [R9 E2.ok _ o.DK,P]
  have so:=λ(β:Type) (l:List P8) (off:Nat) (vs:List d9) (k:Mem->Option β)=>zZ (β:=β) E2.ok o.DK o.lim l off vs k;have a7:(t:Int)<=500:=by omega
  have T:t<=500:=by omega
  have L:¬ (20:Int)<(d:Int):=by omega
  have C:¬ 20<d:=by omega
  have w1:iP ((d:Int)+1)=(d:Int)+1:=K6 (by omega) (by omega);have w2:iP ((H:Int)+1)=(H:Int)+1:=K6 (by omega) (by omega);have w3:iP ((t:Int)+(G:Int))=(t:Int)+(G:Int):=K6 (by omega) (by omega);have q:=λx y ls env a b hx hy=>DL (x:=x) (y:=y) (ls:=ls) (env:=env) (a:=a) (b:=b) hx hy;have cv:=V.slice.cells;simp only [D9,show ((d+1:Nat):Int)=(d:Int)+1 from rfl] at *;rw [o7,← gg];simp [Bv,G9,H9,y1,y2,y3,y4,y5,y6,e,D,f,r,w,a7,T,L,C,a1,I,g2,P,a6,so,w1,w2,w3,q,QM,L6 (i:=i) (by omega)];rw [if_neg h500];exact q2
theorem ab3 (fu:Nat)(G:20000<=fu):∀r n d:Nat,1<=d->d<=21->21-d<=r->ab1 KW (n+r+1) fu d:=by
 intro r;induction r with
 | zero=>
  intro n d u L T m K e f w h M;obtain rfl:d=21:=by omega
  obtain⟨l,o,q,a⟩:=e;obtain⟨v,y,rfl,s,t⟩:=h;have c:=A9.len t;have b:=s.slice.len;rw [c] at b;have z:=s.slice.cells;have A:=s.slice.u7;obtain⟨fu,rfl⟩:∃k,fu=k+1:=⟨fu-1,by omega⟩;match a,t with
  | [],t=>refine⟨ext m [l9 (r4 l o q v),l9 (D9 (1,1)),l9 (D9 (1,1))],?_,G6 f _⟩;rw [enter (sf:=f39) rfl rfl];simp [f39,Cw,o7,P6 f w,u7,b,z,A,rE,qx,D9]
  | e::a,t=>
   refine⟨ext m [l9 (r4 l o q v),l9 (D9 (501,21)),l9 (D9 (1,1))],?_,G6 f _⟩;have j:(0:Int)<((a.length:Int)+1):=by omega
   rw [enter (sf:=f39) rfl rfl];simp [f39,Cw,o7,P6 f w,u7,b,z,A,j,rE,qx,D9]
 | succ r ih=>
  intro n d u L T;by_cases hz:21-d<=r;have:=ih (n+1) d u L hz
  rwa [show n+1+r+1=n+(r+1)+1 from by omega] at this
  intro m K e f w h M;obtain⟨l,o,q,a⟩:=e;obtain⟨v,y,rfl,s,t⟩:=h;have c:=A9.len t;have b:=s.slice.len;rw [c] at b;have z:=s.slice.cells;have A:=s.slice.u7;rw [gM] at M;have S:=K8 a;have E:=G6 f [l9 (r4 l o q v),l9 (D9 (0,0)),l9 (D9 (1,1))];have R:At (m.nx+2) (ext m [l9 (r4 l o q v),l9 (D9 (0,0)),l9 (D9 (1,1))]) _:=At.start E.ok (by simp) (by rw [E.lim];omega);have D:=eD.mono (m':=ext m [l9 (r4 l o q v),l9 (D9 (0,0)),l9 (D9 (1,1))]) s E.nx (λi I _=>E.old i I) (S':=λi=>i<m.nx) λ_ h _=>h;have F:=A9.mono (S':=λi=>i<m.nx) E.nx (λi I _=>E.old i I) (λ_ h _=>h) _ _ t;obtain⟨Z,W,O,V,M',g,x,N⟩:=ab2 (n:=n+r+1) (p:=m.nx) u (by omega) G (ih n (d+1) (by omega) (by omega) (by omega)) E.ok (by simp) (by rw [E.lim];exact w) (by rw [r9 f];rfl) a D F (by omega) a.length 0 (by omega) (1,1) .undef .undef .undef (_) fu R (by rw [I7 f];rfl) (by simp) (by simp) (by omega);have P:C8 (λC m k=>Cw (l7 KW fu (n+r+1)) fu none C m k) fu (UU (.agg (r4 l o q v)) (iV 0) (.ptr m.nx 0) (.ptr (m.nx+2) 0) .undef (iV (d:Int)) .undef (.ptr (m.nx+1) 0) .undef) (ext m [l9 (r4 l o q v),l9 [iV 0,iV 0],l9 [iV 1,iV 1]]) []=_:=g;rw [q8] at N;have H:M'.get (m.nx+1)=some (l9 [iV 0,iV 0]):=by rw [x.fr.old _ (by simp) (by omega),I7 f];rfl
  have j:m.nx+1<M'.nx:=gq (by simp) x.fr.nx;have J:M'.lim<=m.nx+1:=by have:=x.fr.lim;rw [E.lim] at this;omega
  have U:=sB J;have Q:∀B,(M'.set (m.nx+1) B).get (m.nx+1)=some B:=λB=>I8 x.ok _ j rfl;refine⟨M'.set (m.nx+1) (l9 (D9 (rE d (.mk l o q a)))),?_,(x.ext E (by omega)).set j (by omega) _⟩;rw [rE];generalize qx d a (1,1)=r at *;obtain⟨X,Y⟩:=r;simp only [D9] at *;rw [show n+(r+1)+1=(n+r+1)+1 from by omega,enter (sf:=f39) rfl rfl];simp [f39,P6 f w,u7,z,A,P,H,N,U,Q]
theorem af3 (n fu d:Nat)(b:20000<=fu)(a:1<=d)(c:d<=21)(e:30<=n):ab1 KW n fu d:=by
 have:=ab3 fu b 25 (n-26) d a c (by omega)
 rwa [show n-26+25+1=n from by omega] at this
def C36 (K:Known)(n fu d:Nat):Prop:=∀(m:Mem) (v:d9) (l:List V7),m.Ok->m.lim<=m.nx->O4 m (λ_=>True) l v->U2 l<=10000->
 ∃m',l7 K fu n (.func 56) [v,iV (d:Int)] m=some [⟨.agg (D9 (yI d l (0,0))),m'⟩]∧Ext m m'
theorem arh {x y z:OF}{ls:List d9}{env:T d9}{a b c:Int}(e:x ls env=.int .i64 a)(f:y ls env=.int .i64 b)(g:z ls env=.int .i64 c):Tt true x [y,z] ls env=some (.int .i64 (max (max a b) c)):=by
 have d:∀a b:Int,bi (kQ a b) b a=max a b:=λa b=>by rw [iA];by_cases h:a<b;rw [decide_eq_true h,U4];omega;rw [decide_eq_false h,P9];omega
 show ob (mm2 true (x ls env) (y ls env)) (λw=>ob (mm2 true w (z ls env)) some)=_;rw [e,f,g];show some (d9.int .i64 (bi (kQ (bi (kQ a b) b a) c) c (bi (kQ a b) b a)))=_;rw [d,d]
theorem XW (d:Nat)(a:1<=d):20000*3^(21-d)<=69735688020000:=by
 have:=Nat.pow_le_pow_right (n:=3) (by omega) (show 21-d<=20 from by omega);have e:3^20=3486784401:=by decide
 omega
theorem ab4 {n fu d:Nat}(hn:30<=n)(Q:20000<=fu)(a0:1<=d)(hd:d<=21)(N:d<=20->C36 KW n fu (d+1)){m:Mem}(w:m.Ok)(V:m.lim<=m.nx){row:List d9}{e:V7}(h:ig m (λ_=>True) e row)(hp:stP e<=10000):
  ∃m',l7 KW fu (n+1) (.func 104) [.agg row,iV (d:Int)] m=some [⟨.agg (D9 (QK d e)),m'⟩]∧Ext m m':=by
 obtain⟨K,L,a,t,f⟩:=e;obtain⟨v,s,r,re,rt,rf,rfl,D,P,I,a6,G,a1⟩:=h;rw [stP] at hp;have cv:=D.slice.cells;have ov:=D.slice.u7;have ct:=I.slice.cells;have ot:=I.slice.u7;have cf:=G.slice.cells;have of:=G.slice.u7;rw [QK];by_cases h20:20<d;have J:(20:Int)<(d:Int):=by omega
 refine⟨ext m [l9 (r5 K L v s r),l9 (D9 (501,21)),l9 (D9 (1,1))],?_,G6 w _⟩;rw [if_pos h20,enter (sf:=f104) rfl rfl];simp [f104,P6 w V,u7,cv,ov,ct,ot,cf,of,J,h20,D9];have J:¬ (20:Int)<(d:Int):=by omega
 rw [if_neg h20];have a4:=A9.len P;have ab:=K8 a;have E:=G6 w [l9 (r5 K L v s r),l9 (D9 (0,0)),l9 (D9 (1,1))];have hA:At (m.nx+2) (ext m [l9 (r5 K L v s r),l9 (D9 (0,0)),l9 (D9 (1,1))]) _:=At.start E.ok (by simp) (by rw [E.lim];omega);have Y:=eD.mono (m':=ext m [l9 (r5 K L v s r),l9 (D9 (0,0)),l9 (D9 (1,1))]) D E.nx (λi H _=>E.old i H) (S':=λi=>i<m.nx) λ_ h _=>h;have Z:=A9.mono (S':=λi=>i<m.nx) E.nx (λi H _=>E.old i H) (λ_ h _=>h) _ _ P;obtain⟨xi,c',ae,M',g,W,q2⟩:=XV (n:=n) (p:=m.nx) a0 (by omega) Q (af3 n fu (d+1) Q (by omega) (by omega) hn) E.ok (by simp) (by rw [E.lim];exact V) (by rw [r9 w];rfl) a Y Z (by omega) a.length 0 (by omega) (1,1) .undef .undef (_) fu hA (by rw [I7 w];rfl) (by simp) (by simp) (by omega);have g':C8 (λenv m k=>Bv (l7 KW fu n) fu none env m k) fu (fT (.agg (r5 K L v s r)) (iV (d:Int)) ff (.ptr (m.nx+1) 0) (iV 0) (.ptr m.nx 0) (.ptr (m.nx+2) 0) .undef .undef .undef .undef) (ext m [l9 (r5 K L v s r),l9 [iV 0,iV 0],l9 [iV 1,iV 1]]) []=_:=g;rw [q8] at q2;have hE:=QL a d 1 1 (by omega) (by omega) (by omega);have aa:(Pm d a (1,1)).1<=20000∧(Pm d a (1,1)).2<=100:=⟨by have:=hE.2.2.1 (by omega);omega,by have:=hE.2.2.2.1;omega⟩;generalize Pm d a (1,1)=O at *;have EM:=W.ext E (by omega);have tr:∀M,Ext m M->∀(l:List V7) (v:d9) (j:List (List d9)),eD m (λ_=>True) 5 v j->H6 m (λ_=>True) l j->O4 M (λ_=>True) l v:=λM E l v j x1 x2=>O4.ext ⟨j,x1,x2⟩ E;have U:M'.lim<=M'.nx:=by rw [EM.lim];exact aA V EM.nx
 obtain⟨A,g2,E2⟩:=N (by omega) M' s t EM.ok U (tr M' EM t s rt I a6) (by omega);have ht:=yJ t (d+1) 0 0 (by omega) (by omega) (by omega);have a8:=XW (d+1) (by omega);have ad:(yI (d+1) t (0,0)).1<=80000000000000∧(yI (d+1) t (0,0)).2<=100:=⟨by have:=ht.2.2.1 (by omega);omega,by have:=ht.2.2.2.1;omega⟩;generalize yI (d+1) t (0,0)=T at *;have E3:=G6 E2.ok [l9 (D9 T)];have EM3:=EM.trans (E2.trans E3);have R:A.lim<=A.nx:=by rw [E2.lim];exact aA U E2.nx
 have S:(ext A [l9 (D9 T)]).lim<=(ext A [l9 (D9 T)]).nx:=by rw [E3.lim];exact aA R E3.nx
 obtain⟨o,g4,E4⟩:=N (by omega) _ r f E3.ok S (tr _ EM3 f r rf G a1) (by omega);have hf:=yJ f (d+1) 0 0 (by omega) (by omega) (by omega);have ac:(yI (d+1) f (0,0)).1<=80000000000000∧(yI (d+1) f (0,0)).2<=100:=⟨by have:=hf.2.2.1 (by omega);omega,by have:=hf.2.2.2.1;omega⟩;generalize yI (d+1) f (0,0)=F at *;have E5:=G6 E4.ok [l9 (D9 F)];have EM5:=EM3.trans (E4.trans E5);have a3:o.lim<=o.nx:=by rw [E4.lim];exact aA S E4.nx
 obtain⟨y1,y2,y3,y4,y5,y6⟩:=uh E2.ok R;obtain⟨z1,z2,z3,z4,z5,z6⟩:=uh E4.ok a3;have n1:m.nx+2<M'.nx:=gq (by simp) W.fr.nx;have n2:M'.nx<=A.nx:=E2.nx;have n4:A.nx<o.nx:=gq (by simp) E4.nx;have C:M'.get m.nx=some (l9 (r5 K L v s r)):=by rw [W.fr.old _ (by simp) (by omega),r9 w];rfl
 have X:M'.get (m.nx+1)=some (l9 [iV 0,iV 0]):=by rw [W.fr.old _ (by simp) (by omega),I7 w];rfl
 have up:∀i,i<M'.nx->(ext o [l9 (D9 F)]).get i=M'.get i:=λi H=>by rw [E5.old _ (by omega),E4.old _ (by simp;omega),E3.old _ (by omega),E2.old _ H]
 have a7:∀i,i<M'.nx->(ext A [l9 (D9 T)]).get i=M'.get i:=λi H=>by rw [E3.old _ (by omega),E2.old _ H]
 have u0:=(up m.nx (by omega)).trans C;have u1:=(up (m.nx+1) (by omega)).trans X;have u2:=(up (m.nx+2) (by omega)).trans q2;have v0:=(a7 m.nx (by omega)).trans C;have u9:(ext o [l9 (D9 F)]).get A.nx=some (l9 (D9 T)):=by rw [E5.old _ n4,E4.old _ (by simp),r9 E2.ok];rfl
 have u:m.nx+1<(ext o [l9 (D9 F)]).nx:=by simp;omega
 have a2:(ext o [l9 (D9 F)]).lim<=m.nx+1:=by rw [EM5.lim];omega
 have st:=sB a2;have gs:∀B,((ext o [l9 (D9 F)]).set (m.nx+1) B).get (m.nx+1)=some B:=λB=>I8 E5.ok _ u rfl;obtain⟨O1,O2⟩:=O;obtain⟨T1,T2⟩:=T;obtain⟨F1,F2⟩:=F;refine⟨(ext o [l9 (D9 (F1,F2))]).set (m.nx+1) (l9 (D9 (O1+T1+F1,max O2 (max (T2+1) (F2+1))))),?_,EM5.set u (by omega) _⟩;have q:=λx y z ls env a b c hx hy hz=>arh (x:=x) (y:=y) (z:=z) (ls:=ls) (env:=env) (a:=a) (b:=b) (c:=c) hx hy hz;have w1:iP ((d:Int)+1)=(d:Int)+1:=K6 (by omega) (by omega);have w2:iP ((T2:Int)+1)=(T2:Int)+1:=K6 (by omega) (by omega);have w3:iP ((F2:Int)+1)=(F2:Int)+1:=K6 (by omega) (by omega);have w4:iP ((O1:Int)+(T1:Int))=(O1:Int)+(T1:Int):=K6 (by omega) (by omega);have w5:iP ((O1:Int)+(T1:Int)+(F1:Int))=(O1:Int)+(T1:Int)+(F1:Int):=K6 (by omega) (by omega);have a9:((max O2 (max (T2+1) (F2+1)):Nat):Int)=max (max (O2:Int) ((T2:Int)+1)) ((F2:Int)+1):=by omega
 have a5:∀a b c:Int,max (max a b) c=max a (max b c):=λa b c=>by omega
 simp only [D9,show ((d+1:Nat):Int)=(d:Int)+1 from rfl] at *;rw [enter (sf:=f104) rfl rfl];simp [f104,P6 w V,u7,cv,ov,ct,ot,cf,of,J,h20,g',y1,y2,y3,y4,y5,y6,z1,z2,z3,z4,z5,z6,C,u0,u1,u2,u9,v0,g2,g4,st,gs,w1,w2,w3,w4,w5,q,QM,a5]
theorem ab5 {n fu d:Nat}(hn:30<=n)(A:1<=d)(hd:d<=21)(W:20000<=fu)(Q:d<=20->C36 KW n fu (d+1)){m:Mem}{p:Nat}(hm:m.Ok)(hp:p+1<m.nx)(hl:m.lim<=p){v:d9}{rows:List (List d9)}(l:List V7)(h1:eD m (λi=>i<p) 5 v rows)(h2:H6 m (λi=>i<p) l rows)(aa:U2 l<=10000):
  ∀(j i:Nat),i+j=l.length->∀(s:Nat×Nat) (c x5:d9) (M:Mem) (N:Nat),At (p+1) m M->M.get (p+1)=some (l9 (D9 s))->s.1<=80000000000000->s.2<=1000->j+1<=N->
  ∃xi c' x5' M',C8 (λenv m k=>Ju (l7 KW fu (n+1)) fu none env m k) N (UR (iV (i:Int)) v (.ptr (p+1) 0) c (iV (d:Int)) x5 (.ptr p 0)) M [] =
   some [⟨.exit 0,(UR xi v (.ptr (p+1) 0) c' (iV (d:Int)) x5' (.ptr p 0)),M',[],none⟩]∧At (p+1) m M'∧M'.get (p+1)=some (l9 (D9 (yI d (l.drop i) s))):=by
 have D:=H6.len h2;have e:=h1.slice.len;rw [D] at e;have a8:=U0 l;intro j;induction j with
 | zero=>
  intro i Z s c x5 M N r C J K hN;obtain⟨N,rfl⟩:∃k,N=k+1:=⟨N-1,by omega⟩;obtain rfl:i=l.length:=by omega
  refine⟨iV (l.length:Int),.bool false,x5,M,?_,r,?_⟩;rw [o7];simp [Ju,e];rw [aaJ,yI,C]
 | succ j ih=>
  intro i Z s c x5 M N r C J K hN;obtain⟨N,rfl⟩:∃k,N=k+1:=⟨N-1,by omega⟩;have g:i<l.length:=by omega
  have t:i<rows.length:=by omega
  have u:(i:Int)<(l.length:Int):=by omega
  have hM:=r.ok;have U:=r.Aa;have H:l.drop i=l[i]::l.drop (i+1):=Xd g;rw [H,yI];by_cases h500:500<s.1;obtain⟨o,O⟩:=s;simp only [D9] at C h500;refine⟨iV (i:Int),.bool false,x5,M,?_,r,?_⟩;have S:¬ o<=500:=by omega
  have h5:¬ (o:Int)<=500:=by omega
  rw [o7];simp [Ju,C,e,g,u,h5,S];rw [if_pos h500];simpa [D9] using C;have pr:∀i,i<m.nx->i<p->M.get i=m.get i:=λi Z hq=>r.fr.old i Z (by omega);obtain⟨ac,o1,a1,a2,a3,a4,a5⟩:=(eD.mono h1 r.fr.nx pr (S':=λi=>i<p) λ_ _ h=>h).slice.at t;have w:=H6.get h2 i g t;have ab:=w.row;have G:=a4 0 5 (by omega) (by omega);rw [q8,W9 (by omega),Y1] at G;have a9:=jf l i g;have E:ig M (λ_=>True) l[i] rows[i]:=ig.mono r.fr.nx pr (λ_ _ _=>trivial) _ _ w;generalize hX:l[i]=X at *;generalize hR:rows[i]=R at *;obtain⟨m2,g2,E2⟩:=ab4 hn W A hd Q hM U E (by omega);have hb:=XQ X d A hd;have a7:=XW d A;have V:(QK d X).1<=70000000000000∧(QK d X).2<=100:=⟨by have:=hb.2.2.1;omega,by have:=hb.2.2.2;omega⟩;generalize hB:QK d X=B at *;obtain⟨F,P⟩:=B;obtain⟨o,O⟩:=s;simp only at V h500 J K;have f:=r.nx E2;have E3:=G6 E2.ok [l9 (D9 (F,P))];have z:=f.nx E3;have T:=z.set (l9 (D9 (o+F,max O P)));obtain⟨a6,c',x5',M',gg,q1,q2⟩:=ih (i+1) (by omega) (o+F,max O P) tt (.ptr m2.nx 0) _ N T (I8 z.ok _ z.DK rfl) (by simp only;omega) (by simp only;omega) (by omega);refine⟨a6,c',x5',M',?_,q1,?_⟩;obtain⟨y1,y2,y3,y4,y5,y6⟩:=uh E2.ok f.Aa;have I:m2.get (p+1)=some (l9 (D9 (o,O))):=(E2.old _ r.DK).trans C;have Y:(ext m2 [l9 (D9 (F,P))]).get (p+1)=some (l9 (D9 (o,O))):=by rw [R9 E2.ok _ f.DK,I]
  have so:=λ(β:Type) (l:List P8) (off:Nat) (vs:List d9) (k:Mem->Option β)=>zZ (β:=β) E2.ok f.DK f.lim l off vs k;have a0:(o:Int)<=500:=by omega
  have L:o<=500:=by omega
  have w3:iP ((o:Int)+(F:Int))=(o:Int)+(F:Int):=K6 (by omega) (by omega);have q:=λx y ls env a b hx hy=>DL (x:=x) (y:=y) (ls:=ls) (env:=env) (a:=a) (b:=b) hx hy;simp only [D9] at *;rw [o7,← gg];simp [Ju,G9,H9,y1,y2,y3,y4,y5,y6,C,e,g,u,a0,L,a1,G,g2,I,Y,so,w3,q,QM,L6 (i:=i) (by omega)];rw [if_neg h500];exact q2
theorem OG (fu:Nat)(s:20000<=fu)(n d:Nat)(J:30<=n)(q:1<=d)(I:d<=21)(o:d<=20->C36 KW n fu (d+1)):C36 KW (n+2) fu d:=by
 intro m v a e x h K;obtain⟨z,D,F⟩:=h;have H:=U0 a;have E:=G6 e [l9 (D9 (0,0)),l9 (D9 (0,0))];have G:At (m.nx+1) (ext m [l9 (D9 (0,0)),l9 (D9 (0,0))]) _:=At.start E.ok (by simp) (by rw [E.lim];omega);have j:=eD.mono (m':=ext m [l9 (D9 (0,0)),l9 (D9 (0,0))]) D E.nx (λi u _=>E.old i u) (S':=λi=>i<m.nx) λ_ h _=>h;have l:=H6.mono (S':=λi=>i<m.nx) E.nx (λi u _=>E.old i u) (λ_ h _=>h) _ _ F;obtain⟨Q,N,M,M',g,c,y⟩:=ab5 (n:=n) (p:=m.nx) J q I s o E.ok (by simp) (by rw [E.lim];exact x) a j l K a.length 0 (by omega) (0,0) .undef .undef (_) fu G (by rw [I7 e];rfl) (by simp) (by simp) (by omega);have A:C8 (λf m k=>Ju (l7 KW fu (n+1)) fu none f m k) fu (UR (iV 0) v (.ptr (m.nx+1) 0) .undef (iV (d:Int)) .undef (.ptr m.nx 0)) (ext m [l9 [iV 0,iV 0],l9 [iV 0,iV 0]]) []=_:=g;rw [q8] at y;have t:M'.get m.nx=some (l9 [iV 0,iV 0]):=by rw [c.fr.old _ (by simp) (by omega),r9 e];rfl
 have b:m.nx<M'.nx:=gq (by simp) c.fr.nx;have w:M'.lim<=m.nx:=by have:=c.fr.lim;rw [E.lim] at this;omega
 have L:=sB w;have C:∀B,(M'.set m.nx B).get m.nx=some B:=λB=>I8 c.ok _ b rfl;refine⟨M'.set m.nx (l9 (D9 (yI d a (0,0)))),?_,(c.ext E (by omega)).set b (by omega) _⟩;generalize yI d a (0,0)=r at *;obtain⟨O,P⟩:=r;simp only [D9] at *;rw [enter (sf:=f56) rfl rfl];simp [f56,P6 e x,u7,A,t,y,L,C]
theorem af4 (fu:Nat)(b:20000<=fu):∀r n d:Nat,30<=n->1<=d->d<=21->21-d<=r->C36 KW (n+2*r+2) fu d:=by
 intro r;induction r with
 | zero=>intro n d e a c f;exact OG fu b n d e a c (λh=>by omega)
 | succ r ih=>
  intro n d e a c f;have:=OG fu b (n+2*r+2) d (by omega) a c (λh=>ih n (d+1) e (by omega) (by omega) (by omega))
  rwa [show n+2*r+2+2=n+2*(r+1)+2 from by omega] at this
theorem af5 (n fu:Nat)(a:20000<=fu)(b:100<=n):C36 KW n fu 1:=by
 have:=af4 fu a 20 (n-42) 1 (by omega) (by omega) (by omega) (by omega)
 rwa [show n-42+2*20+2=n from by omega] at this
theorem af6 {m:Mem}(x:m.Ok)(u:m.lim<=m.nx){v:d9}{l:List V7}(h:O4 m (λ_=>True) l v)(hp:U2 l<=10000)(n fu:Nat)(f:20000<=fu):
  ∃m',l7 KW fu (n+101) (.func 23) [v] m=some [⟨.tuple [.int .i64 (ni l).1,.int .i64 (ni l).2],m'⟩]∧Ext m m':=by
 obtain⟨j,w,E1⟩:=af5 (n+100) fu f (by omega) m v l x u h hp;have y:=yJ l 1 0 0 (by omega) (by omega) (by omega);rw [← UY l];generalize yI 1 l (0,0)=r at *;obtain⟨d,e⟩:=r;have b:=E1.ok;have g:j.lim<=j.nx:=by rw [E1.lim];exact aA u E1.nx
 obtain⟨k,o,p,q,s,t⟩:=uh b g;refine⟨ext j [l9 (D9 (d,e))],?_,E1.trans (G6 b _)⟩;have a:l7 KW fu (n+100) (.func 56) [v,iV 1] m=_:=w;rw [enter (sf:=f23) rfl rfl];simp only [D9] at *;by_cases h1:500<d;have c:decide ((500:Int)<(d:Int))=true:=decide_eq_true (by omega);simp [f23,G9,H9,k,o,p,q,s,t,a,c,h1];have c:decide ((500:Int)<(d:Int))=false:=decide_eq_false (by omega);by_cases h2:20<e;have i:decide ((20:Int)<(e:Int))=true:=decide_eq_true (by omega);simp [f23,G9,H9,k,o,p,q,s,t,a,c,i,h1,h2];have i:decide ((20:Int)<(e:Int))=false:=decide_eq_false (by omega);simp [f23,G9,H9,k,o,p,q,s,t,a,c,i,h1,h2]
def C31 (K:Known)(n fu:Nat)(k:Nat):Prop:=∀(m:Mem) (v1 v2:d9) (a:List Ex),m.Ok->m.lim<=m.nx->fB m (λ_=>True) a v1->fB m (λ_=>True) a v2->V6 a<=k->T9 a<=10000->
 ∃m',l7 K fu n (.func 26) [v1,v2] m=some [⟨.bool true,m'⟩]∧Ext m m'
theorem af7 {n fu k:Nat}(l:C31 KW n fu k){m:Mem}(r:m.Ok)(q:m.lim<=m.nx){s t:List d9}{e:Ex}(y:R7 m (λ_=>True) e s)(z:R7 m (λ_=>True) e t)(A:dZ e<=k+1)(hp:gM e<=10000):
  ∃m',l7 KW fu (n+1) (.func 60) [.agg s,.agg t] m=some [⟨.bool true,m'⟩]∧Ext m m':=by
 obtain⟨d,f,h,a⟩:=e;obtain⟨o,b,rfl,i,u⟩:=y;obtain⟨p,c,rfl,j,v⟩:=z;rw [dZ] at A;rw [gM] at hp;have w:=i.slice.cells;have B:=i.slice.u7;have x:=j.slice.cells;have C:=j.slice.u7;have E:=G6 r [l9 (r4 d f h o),l9 (r4 d f h p)];obtain⟨m',g,E'⟩:=l (ext m [l9 (r4 d f h o),l9 (r4 d f h p)]) o p a E.ok (by rw [E.lim];exact aA q E.nx) (fB.ext ⟨b,i,u⟩ E) (fB.ext ⟨c,j,v⟩ E) (by omega) (by omega);refine⟨m',?_,E.trans E'⟩;rw [enter (sf:=f60) rfl rfl];simp [f60,P6 r q,u7,w,B,x,C,g]
theorem bX:∀(l:List Ex) (i:Nat) (h:i<l.length),dZ l[i]<=V6 l
 | e::l,0,h=>by simp [V6];omega
 | e::l,i+1,h=>by have:=bX l i (by simpa using h);simp [V6];omega
theorem ab6 {n fu k:Nat}(F:20000<=fu)(p:C31 KW n fu k){m:Mem}(V:m.Ok)(H:m.lim<=m.nx){t u:d9}{c d:List (List d9)}(a:List Ex)(v:eD m (λ_=>True) 4 t c)(w:A9 m (λ_=>True) a c)(y:eD m (λ_=>True) 4 u d)(x:A9 m (λ_=>True) a d)(U:V6 a<=k+1)(hp:T9 a<=10000):
  ∀(j i:Nat),i+j=a.length->∀(c4 c5:d9) (M:Mem) (N:Nat),Ext m M->j+1<=N->
  ∃c5' M',C8 (λenv m k=>Jt (l7 KW fu (n+1)) fu none env m k) N (UR t u ff (iV (i:Int)) c4 c5 ff) M []=some [⟨.exit 0,(UR t u ff (iV (a.length:Int)) ff c5' ff),M',[],none⟩]∧Ext m M':=by
 have L:=A9.len w;have W:=A9.len x;have s:=v.slice.len;rw [L] at s;have D:=K8 a;intro j;induction j with
 | zero=>
  intro i G c4 c5 M N E C;obtain⟨N,rfl⟩:∃k,N=k+1:=⟨N-1,by omega⟩;obtain rfl:i=a.length:=by omega
  refine⟨c5,M,?_,E⟩;rw [o7];simp [Jt,s]
 | succ j ih=>
  intro i G c4 c5 M N E C;obtain⟨N,rfl⟩:∃k,N=k+1:=⟨N-1,by omega⟩;have b:i<a.length:=by omega
  have f:(i:Int)<(a.length:Int):=by omega
  have B:=E.ok;have q:M.lim<=M.nx:=by rw [E.lim];exact aA H E.nx
  obtain⟨I,X,O,Z,p3,P,p5⟩:=(v.slice.ext E).at (i:=i) (by omega);obtain⟨J,Y,Q,q2,q3,R,q5⟩:=(y.slice.ext E).at (i:=i) (by omega);have S:=A9.get w i b (by omega);have T:=A9.get x i b (by omega);have l:=P 0 4 (by omega) (by omega);have o:=R 0 4 (by omega) (by omega);rw [q8,W9 (by omega),Y1] at l o;have g:∀r e,R7 m (λ_=>True) e r->R7 M (λ_=>True) e r:=λr e h=>FX E h;obtain⟨K,z,E2⟩:=af7 p B q (g _ _ S) (g _ _ T) (by have:=bX a i b;omega) (by have:=aV a i b;omega);obtain⟨c5',M',A,E'⟩:=ih (i+1) (by omega) tt ff K N (E.trans E2) (by omega);refine⟨c5',M',?_,E'⟩;rw [o7,← A];simp [Jt,s,b,f,O,l,Q,o,z,L6 (i:=i) (by omega)]
theorem af8 (fu:Nat)(u:20000<=fu):∀r n:Nat,C31 KW (n+2*r+1) fu r:=by
 intro r;induction r with
 | zero=>
  intro n m y z a d v s t w x;obtain⟨b,i,j⟩:=s;obtain⟨c,o,p⟩:=t;have C:a=[]:=by
   cases a with
   | nil=>rfl
   | cons e l=>cases e;simp [V6,dZ] at w
  subst C;have f:=i.slice.len;have h:=o.slice.len;rw [A9.len j] at f;rw [A9.len p] at h;refine⟨m,?_,Ext.refl d⟩;obtain⟨fu,rfl⟩:∃k,fu=k+1:=⟨fu-1,by omega⟩;rw [enter (sf:=f26) rfl rfl];simp [f26,Jt,o7,P6 d v,u7,f,h]
 | succ r ih=>intro n m y z a d v s t w x;obtain⟨b,i,j⟩:=s;obtain⟨c,o,p⟩:=t;have f:=i.slice.len;have h:=o.slice.len;rw [A9.len j] at f;rw [A9.len p] at h;have D:=K8 a;obtain⟨A,M',g,E⟩:=ab6 (n:=n+2*r+1) u (ih n) d v a i j o p (by omega) x a.length 0 (by omega) .undef .undef m fu (Ext.refl d) (by omega);have B:C8 (λq m k=>Jt (l7 KW fu (n+2*r+2)) fu none q m k) fu (UR y z ff (iV 0) .undef .undef ff) m []=_:=g;refine⟨M',?_,E⟩;rw [show n+2*(r+1)+1=(n+2*r+2)+1 from by omega,enter (sf:=f26) rfl rfl];simp [f26,f,h,B]
theorem af9 (n fu r:Nat)(a:20000<=fu)(b:2*r+1<=n):C31 KW n fu r:=by
 have:=af8 fu a r (n-(2*r+1))
 rwa [show n-(2*r+1)+2*r+1=n from by omega] at this
def C12 (K:Known)(n fu:Nat)(k:Nat):Prop:=∀(m:Mem) (v1 v2:d9) (a:List V7),m.Ok->m.lim<=m.nx->O4 m (λ_=>True) a v1->O4 m (λ_=>True) a v2->au a<=k->U2 a<=10000->
 ∃m',l7 K fu n (.func 10) [v1,v2] m=some [⟨.bool true,m'⟩]∧Ext m m'
theorem mE:∀(l:List V7) (i:Nat) (h:i<l.length),rJ l[i]<=au l
 | e::l,0,h=>by simp [au];omega
 | e::l,i+1,h=>by have:=mE l i (by simpa using h);simp [au];omega
theorem ab7 {n fu k:Nat}(aa:20000<=fu)(Y:C31 KW n fu k)(D:C12 KW n fu k){m:Mem}(hm:m.Ok)(hl:m.lim<=m.nx){v1 v2:d9}{f g:List (List d9)}(a:List V7)(a1:eD m (λ_=>True) 5 v1 f)(a2:H6 m (λ_=>True) a f)(b1:eD m (λ_=>True) 5 v2 g)(b2:H6 m (λ_=>True) a g)(hk:au a<=k+1)(hp:U2 a<=10000):
  ∀(j i:Nat),i+j=a.length->∀(c4 x5 x6 c7:d9) (M:Mem) (N:Nat),Ext m M->j+1<=N->
  ∃x5' x6' c7' M',C8 (λenv m k=>Jm (l7 KW fu n) fu none env m k) N (UU v1 v2 ff (iV (i:Int)) c4 x5 x6 c7 ff) M []=some [⟨.exit 0,(UU v1 v2 ff (iV (a.length:Int)) ff x5' x6' c7' ff),M',[],none⟩]∧Ext m M':=by
 have n1:=H6.len a2;have n2:=H6.len b2;have l1:=a1.slice.len;rw [n1] at l1;have a9:=U0 a;intro j;induction j with
 | zero=>
  intro i B c4 x5 x6 c7 M N E hN;obtain⟨N,rfl⟩:∃k,N=k+1:=⟨N-1,by omega⟩;obtain rfl:i=a.length:=by omega
  refine⟨x5,x6,c7,M,?_,E⟩;rw [o7];simp [Jm,l1]
 | succ j ih=>
  intro i B c4 x5 x6 c7 M N E hN;obtain⟨N,rfl⟩:∃k,N=k+1:=⟨N-1,by omega⟩;have t:i<a.length:=by omega
  have O:(i:Int)<(a.length:Int):=by omega
  have hM:=E.ok;have H:M.lim<=M.nx:=by rw [E.lim];exact aA hl E.nx
  obtain⟨ab,o1,p1,p2,p3,p4,p5⟩:=(a1.slice.ext E).at (i:=i) (by omega);obtain⟨id2,o2,q1,q2,q3,q4,q5⟩:=(b1.slice.ext E).at (i:=i) (by omega);have r1:=H6.get a2 i t (by omega);have r2:=H6.get b2 i t (by omega);have S:=p4 0 5 (by omega) (by omega);have T:=q4 0 5 (by omega) (by omega);rw [q8,W9 (by omega),Y1] at S T;have P:∀r e,ig m (λ_=>True) e r->ig M (λ_=>True) e r:=λr e h=>XK E h;have t1:=P _ _ r1;have t2:=P _ _ r2;have hL:=mE a i t;have hP:=jf a i t;generalize a[i]=X at *;generalize hR1:f[i]=R1 at *;generalize hR2:g[i]=R2 at *;obtain⟨q,s,ae,W,af⟩:=X;obtain⟨b,d,c,a3,a7,a5,rfl,v,I,z,Q,x,K⟩:=t1;obtain⟨l,p,o,a4,a8,a6,rfl,w,J,A,R,y,L⟩:=t2;rw [rJ] at hL;rw [stP] at hP;have E1:=G6 hM [l9 (r5 q s b d c),l9 (r5 q s l p o)];have F:(ext M [l9 (r5 q s b d c),l9 (r5 q s l p o)]).lim<=(ext M [l9 (r5 q s b d c),l9 (r5 q s l p o)]).nx:=by rw [E1.lim];exact aA H E1.nx
  obtain⟨U,g2,E2⟩:=Y (ext M [l9 (r5 q s b d c),l9 (r5 q s l p o)]) b l ae E1.ok F (fB.ext ⟨a3,v,I⟩ E1) (fB.ext ⟨a4,w,J⟩ E1) (by omega) (by omega);have G:U.lim<=U.nx:=by rw [E2.lim];exact aA F E2.nx
  have E12:=E1.trans E2;obtain⟨V,g3,E3⟩:=D U d p W E2.ok G (O4.ext ⟨a7,z,Q⟩ E12) (O4.ext ⟨a8,A,R⟩ E12) (by omega) (by omega);have Z:V.lim<=V.nx:=by rw [E3.lim];exact aA G E3.nx
  have E13:=E12.trans E3;obtain⟨m4,g4,E4⟩:=D V c o af E3.ok Z (O4.ext ⟨a5,x,K⟩ E13) (O4.ext ⟨a6,y,L⟩ E13) (by omega) (by omega);obtain⟨x5',x6',c7',M',gg,E'⟩:=ih (i+1) (by omega) tt (.ptr M.nx 0) (.ptr (M.nx+1) 0) ff m4 N (E.trans (E13.trans E4)) (by omega);refine⟨x5',x6',c7',M',?_,E'⟩;obtain⟨y1,y2,y3,y4,y5,y6⟩:=uh hM H;have u:∀i,i<M.nx+2->U.get i=(ext M [l9 (r5 q s b d c),l9 (r5 q s l p o)]).get i:=λi B=>E2.old i (by simpa using B);have u3:∀i,i<M.nx+2->V.get i=(ext M [l9 (r5 q s b d c),l9 (r5 q s l p o)]).get i:=λi B=>by rw [E3.old i (gq (by simpa using B) E2.nx),u i B]
  have ua:=u M.nx (by omega);have ub:=u (M.nx+1) (by omega);have uc:=u3 M.nx (by omega);have ud:=u3 (M.nx+1) (by omega);rw [y1] at ua uc;rw [y2] at ub ud;have C:(ext M [l9 (r5 q s b d c)]).get id2=M.get id2:=R9 hM _ q2;have k1:=v.slice.cells;have k2:=z.slice.cells;have k3:=x.slice.cells;have k4:=w.slice.cells;have k5:=A.slice.cells;have k6:=y.slice.cells;have a0:=v.slice.u7;have l2:=z.slice.u7;have l3:=x.slice.u7;have l4:=w.slice.u7;have l5:=A.slice.u7;have l6:=y.slice.u7;rw [o7,← gg];simp [Jm,G9,H9,y1,y2,y3,y4,y5,y6,l1,t,O,p1,S,q1,T,C,g2,g3,g4,ua,ub,uc,ud,k1,k2,k3,k4,k5,k6,a0,l2,l3,l4,l5,l6,L6 (i:=i) (by omega)]
theorem afa (fu:Nat)(f:20000<=fu):∀r n:Nat,C12 KW (n+2*r+1) fu r:=by
 intro r;induction r with
 | zero=>
  intro n m z A a h w u v x y;obtain⟨b,o,p⟩:=u;obtain⟨c,q,s⟩:=v;have D:a=[]:=by
   cases a with
   | nil=>rfl
   | cons e l=>cases e;simp [au,rJ] at x
  subst D;have i:=o.slice.len;have j:=q.slice.len;rw [H6.len p] at i;rw [H6.len s] at j;refine⟨m,?_,Ext.refl h⟩;obtain⟨fu,rfl⟩:∃k,fu=k+1:=⟨fu-1,by omega⟩;rw [enter (sf:=f10) rfl rfl];simp [f10,Jm,o7,P6 h w,u7,i,j]
 | succ r ih=>intro n m z A a h w u v x y;obtain⟨b,o,p⟩:=u;obtain⟨c,q,s⟩:=v;have i:=o.slice.len;have j:=q.slice.len;rw [H6.len p] at i;rw [H6.len s] at j;have F:=U0 a;have d:=ih (n+1);rw [show n+1+2*r+1=n+2*r+2 from by omega] at d;obtain⟨G,H,B,M',g,E⟩:=ab7 (n:=n+2*r+2) f (af9 _ fu r f (by omega)) d h w a o p q s (by omega) y a.length 0 (by omega) .undef .undef .undef .undef m fu (Ext.refl h) (by omega);have C:C8 (λt m k=>Jm (l7 KW fu (n+2*r+2)) fu none t m k) fu (UU z A ff (iV 0) .undef .undef .undef .undef ff) m []=_:=g;refine⟨M',?_,E⟩;rw [show n+2*(r+1)+1=(n+2*r+2)+1 from by omega,enter (sf:=f10) rfl rfl];simp [f10,i,j,C]
theorem afb (n fu r:Nat)(a:20000<=fu)(b:2*r+1<=n):C12 KW n fu r:=by
 have:=afa fu a r (n-(2*r+1))
 rwa [show n-(2*r+1)+2*r+1=n from by omega] at this
end
end Go.Proofs.YtfddpcckppibjaaGreatDoor.TT
