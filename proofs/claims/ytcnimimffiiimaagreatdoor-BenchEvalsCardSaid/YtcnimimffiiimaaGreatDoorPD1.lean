/- Counting and comparing statements, walked; conditions: the memory holds what the arguments say. -/
import Derived.Test.YtcnimimffiiimaaGreatDoorPB4
import GoSem.Core.Utf8
import Derived.Lib.AtoiAll
import Derived.Lib.ItoaNum
set_option linter.all false
namespace Go.Proofs.YtcnimimffiiimaaGreatDoor.TT
open Go Go.AM
noncomputable section
abbrev By:=List UInt8
def qO (b:UInt8):Bool:=decide (97<=b.toNat)&&decide (b.toNat<=122)
def zL (b:UInt8):Bool:=decide (48<=b.toNat)&&decide (b.toNat<=57)
def Eo (b:UInt8):Bool:=qO b||zL b
def LK (p:UInt8->Bool):By->Nat
 | []=>0
 | b::s=>if p b then LK p s+1 else 0
def ahY (s:By):Nat:=s.foldl (λn b=>10*n+(b.toNat-48)) 0
def ahZ (s:By):Bool:=decide (s=[60,61])||decide (s=[62,61])||decide (s=[61,61])||decide (s=[33,61])
def ones:By:=[123,125,40,41,44,59,61,43,45,42,47,37,60,62]
def aoH (s:By):Option (Nat×Nat):=match s with
 | []=>none
 | b :: _=>
  if qO b then (if LK Eo s<=16 then some (1,LK Eo s) else none)
  else if zL b then (if (b=48∧1<LK zL s)∨9007199254740992<ahY (s.take (LK zL s)) then none else some (2,LK zL s))
  else if ahZ (s.take 2) then some (3,2)
  else if ones.contains b then some (3,1) else none
abbrev Tok:=Nat×By
def YG:Nat->Nat->By->Sum Nat (List Tok)
 | 0,_,_=>.inr []
 | _+1,_,[]=>.inr []
 | n+1,i,b::t=>
  if b=32∨b=10 then YG n (i+1) t
  else if b=35 then YG n (i+LK (λc=>c != 10) (b::t)) ((b::t).drop (LK (λc=>c != 10) (b::t)))
  else match aoH (b::t) with
   | none=>.inl i
   | some (k,l)=>match YG n (i+l) ((b::t).drop l) with
    | .inl j=>.inl j
    | .inr ts=>.inr ((k,(b::t).take l)::ts)
def ai0 (i:Nat)(s:By):Sum Nat (List Tok):=YG s.length i s
theorem Gt (s:By)(i:Nat)(h:i<s.length):((s[i]).toNat<128∧Utf8.decode ⟨s.toArray⟩ i=((s[i]).toNat,1))∨
  (128<=(s[i]).toNat∧128<=(Utf8.decode ⟨s.toArray⟩ i).1∧(Utf8.decode ⟨s.toArray⟩ i).1<2147483648∧1<=(Utf8.decode ⟨s.toArray⟩ i).2∧i+(Utf8.decode ⟨s.toArray⟩ i).2<=s.length∧
   ∀j (hj:j<s.length),i<=j->j<i+(Utf8.decode ⟨s.toArray⟩ i).2->128<=(s[j]).toNat):=by
 have g:∀k (d:i+k<s.length),(ByteArray.get! ⟨s.toArray⟩ (i+k)).toNat=(s[i+k]).toNat:=λk d=>by show ((s.toArray)[i+k]!).toNat=_;rw [getElem!_pos s.toArray (i+k) (by simpa using d)];simp
 have n:=g 0 (by omega);simp only [Y5] at n;have c:∀k,(decide (i+k<ByteArray.size ⟨s.toArray⟩)&&(ByteArray.get! ⟨s.toArray⟩ (i+k)).toNat / 64==2)=true->∃d:i+k<s.length,(s[i+k]).toNat / 64=2:=λk d=>by
  simp only [gI,decide_eq_true_eq,beq_iff_eq] at d;have a:i+k<s.length:=by simpa [ByteArray.size] using d.1
  exact⟨a,by rw [← g k a];exact d.2⟩
 have u:=UInt8.toNat_lt s[i];unfold Utf8.decode;simp only [Y5,n];by_cases h0:(s[i]).toNat<128;left;exact⟨h0,by rw [if_pos h0]⟩;right;rw [if_neg h0];have l:∀j (hj:j<s.length),i<=j->j<i+1->128<=(s[j]).toNat:=λj hj a b=>by
  obtain rfl:j=i:=by omega
  omega
 have f:∀{p:Nat×Nat},p=(Utf8.runeError,1)->(128<=p.1∧p.1<2147483648∧1<=p.2∧i+p.2<=s.length∧∀j (hj:j<s.length),i<=j->j<i+p.2->128<=(s[j]).toNat):=λh=>by subst h;exact⟨by decide,by decide,by decide,by show i+1<=_;omega,l⟩
 refine⟨by omega,?_⟩;split;rename_i a;rw [gI] at a;obtain⟨o,m⟩:=c 1 a.2;split;rename_i b;refine⟨b,?_,(by show 1<=2;omega),by show i+2<=_;omega,λj hj q e=>?_⟩;show _ + _<2147483648;omega;have:j=i∨j=i+1:=by simp only at e;omega
 rcases this with rfl | rfl;omega;omega;exact f rfl;split;rename_i a;rw [gI,gI] at a;obtain⟨o,m⟩:=c 1 a.1.2;obtain⟨t,r⟩:=c 2 a.2;split;rename_i b;rw [gI,decide_eq_true_eq] at b;refine⟨J2 (by decide) b.1,?_,(by show 1<=3;omega),by show i+3<=_;omega,λj hj q e=>?_⟩;show _ + _ + _<2147483648;omega;have:j=i∨j=i+1∨j=i+2:=by simp only at e;omega
 rcases this with rfl | rfl | rfl<;>omega
 exact f rfl;split;rename_i a;rw [gI,gI,gI] at a;obtain⟨o,m⟩:=c 1 a.1.1.2;obtain⟨t,r⟩:=c 2 a.1.2;obtain⟨w,v⟩:=c 3 a.2;split;rename_i b;rw [gI,decide_eq_true_eq] at b;refine⟨J2 (by decide) b.1,?_,(by show 1<=4;omega),by show i+4<=_;omega,λj hj q e=>?_⟩;show _ + _ + _ + _<2147483648;omega;have:j=i∨j=i+1∨j=i+2∨j=i+3:=by simp only at e;omega
 rcases this with rfl | rfl | rfl | rfl<;>omega
 exact f rfl;exact f rfl
abbrev nS:d9:=.nilSlice
abbrev iV (a:Int):d9:=.int .i64 a
abbrev r4 (a b:Int)(c:List UInt8)(d:d9):List d9:=[.int .i64 a,.int .i64 b,.str c,d]
abbrev r5 (a:Int)(b:List UInt8)(c d e:d9):List d9:=[.int .i64 a,.str b,c,d,e]
abbrev r6 (a b:Int)(c:List UInt8)(d:d9)(e:Int)(f:Bool):List d9:=[.int .i64 a,.int .i64 b,.str c,d,.int .i64 e,.bool f]
abbrev r7 (a:Int)(b:List UInt8)(c d e:d9)(f:Int)(g:Bool):List d9:=[.int .i64 a,.str b,c,d,e,.int .i64 f,.bool g]
abbrev r3 (a:d9)(b:Int)(c:Bool):List d9:=[a,.int .i64 b,.bool c]
attribute [simp] nS iV r3 r4 r5 r6 r7 ko bD rM abz XZ Ut aby Ro tC tu
attribute [simp] I J S U Z A V tt ff nG zap za5 zhd UR
abbrev nV5 (a0 a1 a2 a3 a4:d9):T d9:=(.nd (.nd (.nd .e a3 .e) a1 .e) a0 (.nd (.nd .e a4 .e) a2 .e))
abbrev zM (a0 a1 a2 a3 a4 a5:d9):T d9:=(.nd (.nd (.nd .e a3 .e) a1 (.nd .e a5 .e)) a0 (.nd (.nd .e a4 .e) a2 .e))
abbrev nV7 (a0 a1 a2 a3 a4 a5 a6:d9):T d9:=(.nd (.nd (.nd .e a3 .e) a1 (.nd .e a5 .e)) a0 (.nd (.nd .e a4 .e) a2 (.nd .e a6 .e)))
abbrev yL (a0 a1 a2 a3 a4 a5 a6 a7:d9):T d9:=(.nd (.nd (.nd (.nd .e a7 .e) a3 .e) a1 (.nd .e a5 .e)) a0 (.nd (.nd .e a4 .e) a2 (.nd .e a6 .e)))
abbrev ML (a0 a1 a2 a3 a4 a5 a6 a7 a8:d9):T d9:=(.nd (.nd (.nd (.nd .e a7 .e) a3 .e) a1 (.nd .e a5 .e)) a0 (.nd (.nd (.nd .e a8 .e) a4 .e) a2 (.nd .e a6 .e)))
abbrev Jd (a0 a1 a2 a3 a4 a5 a6 a7 a8 a9:d9):T d9:=(.nd (.nd (.nd (.nd .e a7 .e) a3 .e) a1 (.nd (.nd .e a9 .e) a5 .e)) a0 (.nd (.nd (.nd .e a8 .e) a4 .e) a2 (.nd .e a6 .e)))
abbrev EY (a0 a1 a2 a3 a4 a5 a6 a7 a8 a9 a10:d9):T d9:=(.nd (.nd (.nd (.nd .e a7 .e) a3 .e) a1 (.nd (.nd .e a9 .e) a5 .e)) a0 (.nd (.nd (.nd .e a8 .e) a4 .e) a2 (.nd (.nd .e a10 .e) a6 .e)))
abbrev YH (a0 a1 a2 a3 a4 a5 a6 a7 a8 a9 a10 a11:d9):T d9:=(.nd (.nd (.nd (.nd .e a7 .e) a3 (.nd .e a11 .e)) a1 (.nd (.nd .e a9 .e) a5 .e)) a0 (.nd (.nd (.nd .e a8 .e) a4 .e) a2 (.nd (.nd .e a10 .e) a6 .e)))
abbrev aoJ (a0 a1 a2 a3 a4 a5 a6 a7 a8 a9 a10 a11 a12:d9):T d9:=(.nd (.nd (.nd (.nd .e a7 .e) a3 (.nd .e a11 .e)) a1 (.nd (.nd .e a9 .e) a5 .e)) a0 (.nd (.nd (.nd .e a8 .e) a4 (.nd .e a12 .e)) a2 (.nd (.nd .e a10 .e) a6 .e)))
abbrev aoK (a0 a1 a2 a3 a4 a5 a6 a7 a8 a9 a10 a11 a12 a13 a14 a15:d9):T d9:=(.nd (.nd (.nd (.nd (.nd .e a15 .e) a7 .e) a3 (.nd .e a11 .e)) a1 (.nd (.nd .e a9 .e) a5 (.nd .e a13 .e))) a0 (.nd (.nd (.nd .e a8 .e) a4 (.nd .e a12 .e)) a2 (.nd (.nd .e a10 .e) a6 (.nd .e a14 .e))))
abbrev aoL (a0 a1 a2 a3 a4 a5 a6 a7 a8 a9 a10 a11 a12 a13 a14 a15 a16 a17:d9):T d9:=(.nd (.nd (.nd (.nd (.nd .e a15 .e) a7 .e) a3 (.nd .e a11 .e)) a1 (.nd (.nd (.nd .e a17 .e) a9 .e) a5 (.nd .e a13 .e))) a0 (.nd (.nd (.nd (.nd .e a16 .e) a8 .e) a4 (.nd .e a12 .e)) a2 (.nd (.nd .e a10 .e) a6 (.nd .e a14 .e))))
abbrev kH (a0 a1 a2 a3 a4 a5 a6 a7 a8 a9 a10 a11 a12 a13 a14 a15 a16 a17 a18:d9):T d9:=(.nd (.nd (.nd (.nd (.nd .e a15 .e) a7 .e) a3 (.nd .e a11 .e)) a1 (.nd (.nd (.nd .e a17 .e) a9 .e) a5 (.nd .e a13 .e))) a0 (.nd (.nd (.nd (.nd .e a16 .e) a8 .e) a4 (.nd .e a12 .e)) a2 (.nd (.nd (.nd .e a18 .e) a10 .e) a6 (.nd .e a14 .e))))
abbrev aoM (a0 a1 a2 a3 a4 a5 a6 a7 a8 a9 a10 a11 a12 a13 a14 a15 a16 a17 a18 a19:d9):T d9:=(.nd (.nd (.nd (.nd (.nd .e a15 .e) a7 .e) a3 (.nd (.nd .e a19 .e) a11 .e)) a1 (.nd (.nd (.nd .e a17 .e) a9 .e) a5 (.nd .e a13 .e))) a0 (.nd (.nd (.nd (.nd .e a16 .e) a8 .e) a4 (.nd .e a12 .e)) a2 (.nd (.nd (.nd .e a18 .e) a10 .e) a6 (.nd .e a14 .e))))
attribute [simp] nV5 zM nV7 yL ML Jd EY YH aoJ aoK aoL kH aoM
theorem lU {m:Mem}(a:m.Ok)(d:m.lim<=m.nx):(∀(m:Mem) b,m.new b=ext m [b])∧(∀(m:Mem) l l',ext (ext m l) l'=ext m (l++l'))∧(∀l,(ext m l).get m.nx=l[0]?)∧(∀l c,(ext m l).get (m.nx+c)=l[c]?)∧
  (∀(β:Type) l c off vs (k:Mem->Option β),storeAt (ext m l) (m.nx+c) off vs k=bi (K4 vs) (ob (Go.AM.Ga l[c]? off vs) λb=>k (ext m (l.set c b))) none)∧
  (∀(β:Type) l off vs (k:Mem->Option β),storeAt (ext m l) m.nx off vs k=bi (K4 vs) (ob (Go.AM.Ga l[0]? off vs) λb=>k (ext m (l.set 0 b))) none)∧
  (∀(l:List N7) c b,c<l.length->(ext m l).set (m.nx+c) b=ext m (l.set c b))∧∀(l:List N7) b,0<l.length->(ext m l).set m.nx b=ext m (l.set 0 b):=
 ⟨G7,I8,D6 a,G6 a,λβ l c off vs k=>N8 a d l c off vs k,λβ l off vs k=>F7 a d l off vs k,I6 a,H8 a⟩
section
variable {m m':Mem}{S:Nat->Prop}(E:Ext m m')
include E
theorem SK {e:Ex}{r:List d9}(h:bU m S e r):bU m' S e r:=bU.mono E.nx (λi a _=>E.old i a) (λ_ _ h=>h) _ _ h
theorem Vm {e:List Ex}{r:List (List d9)}(h:G8 m S e r):G8 m' S e r:=G8.mono E.nx (λi a _=>E.old i a) (λ_ _ h=>h) _ _ h
end
theorem sB {m:Mem}{id:Nat}(h:m.lim<=id)(β:Type)(off:Nat)(a:List d9)(k:Mem->Option β):storeAt m id off a k=bi (K4 a) (ob (Ga (m.get id) off a) λb=>k (m.set id b)) none:=wH h off a k
theorem pnR {m:Mem}{rs:Nat}{v:d9}{l:List (List d9)}(h:aR m rs v l)(β:Type)(p:d9->β)(q:β):bW v p q=q:=h.ng p q
def PD (f:Nat):Bool:=Nat.beq f 7||(Nat.beq f 96||(Nat.beq f 98||(Nat.beq f 183||Nat.beq f 230)))
def aoN (f:FuncId):Option M9:=(fns f).map λsf=>{sf with pure:=PD f}
def aco (f:FuncId)(args:List d9)(bs:List NB):Option AV:=match bs with
 | []=>match args with
  | [.str s,.str [c]]=>if f=98 then some ⟨.bool (Yd c s),[]⟩ else none
  | [.int .i64 n]=>if f=230∧0<=n∧n<=9223372036854775807 then some ⟨.str (Lib.itoa n),[]⟩ else none
  | _=>none
 | _=>none
def Vn (f:FuncId)(args:List d9)(bs:List NB):Option AV:=if f=7 then sumOf [⟨7,[],[],.bool true,[]⟩] f args bs else if f=183 then abO 187 387 183 13 f args bs else aco f args bs
def aoO (f:FuncId)(args:List d9)(m:Mem):eO:=bi (Nat.beq f 86) (BA args m) (bi (Nat.beq f 240) (lS args m) none)
def KW:Known:=⟨aoN,base,Vn,aoO⟩
theorem enter {n fu:Nat}{f:FuncId}{sf:M9}{c:List d9}{m:Mem}(h:fns f=some sf)(e:PD f=false)(d:Nat.beq f 240=false:=by rfl)(b:Nat.beq f 86=false:=by rfl):
  l9 KW fu (n+1) (.func f) c m=ko (l9 KW fu n) (qQ KW (l9 KW fu n) fu) fu sf c m:=by
 rw [dH];have h:KW.fns f=some {sf with pure:=false}:=by show (fns f).map _=_;rw [h,e];rfl
 have a:KW.eff f c m=none:=by show bi (Nat.beq f 86) _ (bi (Nat.beq f 240) _ none)=none;rw [d,b];rfl
 simp only [h,a,K5,O6];rfl
theorem acp {n fu:Nat}{f:FuncId}{sf:M9}{c:List d9}{m:Mem}(h:fns f=some sf)(e:PD f=true)(d:Nat.beq f 240=false:=by rfl)(b:Nat.beq f 86=false:=by rfl):
  l9 KW fu (n+1) (.func f) c m=gD KW (l9 KW fu n) fu f {sf with pure:=true} c m:=by
 rw [dH];have h:KW.fns f=some {sf with pure:=true}:=by show (fns f).map _=_;rw [h,e];rfl
 have a:KW.eff f c m=none:=by show bi (Nat.beq f 86) _ (bi (Nat.beq f 240) _ none)=none;rw [d,b];rfl
 simp only [h,a,K5];rfl
theorem LM {lo:Nat}{l:List d9}(m:Mem)(b:vR lo l=[])(c:∀r,jD r l=some l):jS lo l m=some ⟨[],l,[]⟩:=by show ob (reach m lo (99999+1) (vR lo l) []) _=_;rw [b,Dz];show ob (jD (yT lo []) l) (λd=>ob (some []) λa=>some (⟨[],d,a⟩:CO))=_;rw [c];rfl
theorem RU (n fu:Nat)(m:Mem):l9 KW fu (n+1) (.func 7) [] m=some [⟨.bool true,m⟩]:=by
 obtain⟨sf,b⟩:∃sf,fns 7=some sf:=⟨_,rfl⟩;rw [acp (sf:=sf) b rfl,Ym (K:=KW) (c:=⟨[],[],[]⟩) (a:=⟨.bool true,[]⟩) (LM m rfl λ_=>rfl)
  (by show Vn 7 [] []=_;rw [Vn,if_pos rfl];rfl)]
 rfl
set_option maxRecDepth 100000
set_option maxHeartbeats 4000000
theorem Vo (b:UInt8)(n fu:Nat)(m:Mem):l9 KW fu (n+1) (.func 93) [.int .u8 (b.toNat:Nat)] m=some [⟨.bool (qO b),m⟩]:=by
 rw [enter (sf:=f93) rfl rfl];have a:decide ((97:Int)<=((b.toNat:Nat):Int))=decide (97<=b.toNat):=by rw [aaz];simp only [decide_eq_true_eq];omega
 have c:decide (((b.toNat:Nat):Int)<=(122:Int))=decide (b.toNat<=122):=by rw [aaz];simp only [decide_eq_true_eq];omega
 by_cases h:97<=b.toNat<;>simp [f93,qO,a,c,h]
theorem acr (b:UInt8)(n fu:Nat)(m:Mem):l9 KW fu (n+1) (.func 95) [.int .u8 (b.toNat:Nat)] m=some [⟨.bool (zL b),m⟩]:=by
 rw [enter (sf:=f95) rfl rfl];have a:decide ((48:Int)<=((b.toNat:Nat):Int))=decide (48<=b.toNat):=by rw [aaz];simp only [decide_eq_true_eq];omega
 have c:decide (((b.toNat:Nat):Int)<=(57:Int))=decide (b.toNat<=57):=by rw [aaz];simp only [decide_eq_true_eq];omega
 by_cases h:48<=b.toNat<;>simp [f95,zL,a,c,h]
theorem PE (b:UInt8)(n fu:Nat)(m:Mem):l9 KW fu (n+1) (.func 128) [.int .u8 (b.toNat:Nat)] m=some [⟨.bool (qO b),m⟩]:=by
 rw [enter (sf:=f128) rfl rfl];have a:decide ((97:Int)<=((b.toNat:Nat):Int))=decide (97<=b.toNat):=by rw [aaz];simp only [decide_eq_true_eq];omega
 have c:decide (((b.toNat:Nat):Int)<=(122:Int))=decide (b.toNat<=122):=by rw [aaz];simp only [decide_eq_true_eq];omega
 by_cases h:97<=b.toNat<;>simp [f128,qO,a,c,h]
theorem YI (b:UInt8)(n fu:Nat)(m:Mem):l9 KW fu (n+1) (.func 129) [.int .u8 (b.toNat:Nat)] m=some [⟨.bool (zL b),m⟩]:=by
 rw [enter (sf:=f129) rfl rfl];have a:decide ((48:Int)<=((b.toNat:Nat):Int))=decide (48<=b.toNat):=by rw [aaz];simp only [decide_eq_true_eq];omega
 have c:decide (((b.toNat:Nat):Int)<=(57:Int))=decide (b.toNat<=57):=by rw [aaz];simp only [decide_eq_true_eq];omega
 by_cases h:48<=b.toNat<;>simp [f129,zL,a,c,h]
theorem Vp {m:Mem}(b:m.Ok)(l:List d9):jQ (m.new (.cells 1 l.length (T.ofList (l.map ([·]))))) (.slice m.nx 0 l.length l.length) l:=
 .inr ⟨m.nx,0,.inl ⟨_,rfl,lM _⟩,by simp,.inr ⟨l.length,T.ofList (l.map ([·])),by rw [Mem.J9 b,if_pos rfl],by simp,λi a=>by rw [Z8,T.aG];simp [a]⟩⟩
set_option maxHeartbeats 8000000
@[simp] theorem aoP:lF .nilIface .nilIface=some true:=_root_.id rfl
@[simp] theorem aoQ (t:TypeId)(v:d9):lF (.iface t v) .nilIface=some false:=_root_.id rfl
theorem acs {m:Mem}(a:m.Ok)(d:m.lim<=m.nx):(∀l:List N7,(ext m l).get m.nx=l[0]?)∧(∀(l:List N7) (c:Nat),(ext m l).get (m.nx+c)=l[c]?)∧
  (∀(β:Type) (l:List N7) (c off:Nat) (vs:List d9) (k:Mem->Option β),storeAt (ext m l) (m.nx+c) off vs k=bi (K4 vs) (ob (Ga l[c]? off vs) λb=>k (ext m (l.set c b))) none)∧
  (∀(β:Type) (l:List N7) (off:Nat) (vs:List d9) (k:Mem->Option β),storeAt (ext m l) m.nx off vs k=bi (K4 vs) (ob (Ga l[0]? off vs) λb=>k (ext m (l.set 0 b))) none)∧
  (∀(l:List N7) (c:Nat) (b:N7),c<l.length->(ext m l).set (m.nx+c) b=ext m (l.set c b))∧∀(l:List N7) (b:N7),0<l.length->(ext m l).set m.nx b=ext m (l.set 0 b):=
 ⟨D6 a,G6 a,λ_=>N8 a d,λ_=>F7 a d,I6 a,H8 a⟩
def Brd (s:By)(pos nx:Nat):Prop:=nx<=s.length∧(nx=s.length∨(∀i (h:i<s.length),pos<=i->i<nx->(s[i]).toNat<128)∨∃h:nx<s.length,s[nx]=10)
theorem Brd.mono {s:By}{b a nx:Nat}(h:Brd s b nx)(hp:b<=a):Brd s a nx:=
 ⟨h.1,h.2.imp id (Or.imp (λh i d e c=>h i d (by omega) c) id)⟩
theorem Brd.step {s:By}{a nx:Nat}(h:Brd s a nx)(b:a<s.length)(hp:a<nx):a+(Utf8.decode ⟨s.toArray⟩ a).2<=nx:=by rcases Gt s a b with⟨h1,h2⟩ | ⟨h1,h2,h3,h4,h5,h6⟩;rw [h2];exact hp;rcases h.2 with h7 | h7 | ⟨h7,h8⟩;omega;have:=h7 a b (lM _) hp;omega;refine adB λc=>?_;have:=h6 nx h7 (by omega) (by omega);rw [h8] at this;exact absurd this (by decide)
def aaJ (t:Tok):List d9:=[iV (t.1:Nat),.str t.2]
def tQ (l:List Tok):List (List d9):=l.map aaJ
theorem Vq {m:Mem}{s:By}{p a:Nat}(h:m.get p=some (.siter s a))(d:m.lim<=p)(hp:a<s.length)(it:OF)(cf:D7)(ls:List d9)(env:T d9)(c:it ls env=.ptr p 0):
  BS it cf ls env m=some [⟨.tuple [.bool true,iV (a:Nat),.int .i32 ((Utf8.decode ⟨s.toArray⟩ a).1:Nat)],m.set p (.siter s (a+(Utf8.decode ⟨s.toArray⟩ a).2))⟩]:=by
 show eP (it ls env) (λid b=>bi (Nat.beq b 0) (bi (Nat.blt id m.lim) none (GX (m.get id) λs a=>bi (Nat.blt a (len' s)) _ _)) none)=_;rw [c,Pf,show Nat.beq 0 0=true from rfl,U0,show Nat.blt p m.lim=false from aaB.2 λe=>by have:=Xb.mp e;omega,O6,h];show bi (Nat.blt a (len' s)) _ _=_;rw [I4,show Nat.blt a s.length=true from Xb.mpr hp];rfl
theorem Gu {m:Mem}{s:By}{p:Nat}(h:m.get p=some (.siter s s.length))(d:m.lim<=p)(it:OF)(cf:D7)(ls:List d9)(env:T d9)(c:it ls env=.ptr p 0):
  BS it cf ls env m=some [⟨.tuple [.bool false],m⟩]:=by
 show eP (it ls env) (λid a=>bi (Nat.beq a 0) (bi (Nat.blt id m.lim) none (GX (m.get id) λs b=>bi (Nat.blt b (len' s)) _ _)) none)=_;rw [c,Pf,show Nat.beq 0 0=true from rfl,U0,show Nat.blt p m.lim=false from aaB.2 λe=>by have:=Xb.mp e;omega,O6,h];show bi (Nat.blt s.length (len' s)) _ _=_;rw [I4,show Nat.blt s.length s.length=false from aaB.2 λe=>by have:=Xb.mp e;omega];rfl
def Og (s:By)(p:Nat)(acc:List Tok)(M:Mem)(r:Option (List Out))(l:Sum Nat (List Tok)):Prop:=
 (∃(ts:List Tok) (e3 e4 e5 e6 e7 e8 e9 e10 e11 out e13:d9) (M':Mem),l=.inr ts∧r=some [⟨.exit 0,(.nd (.nd (.nd (.nd (.nd .e (iV 0) .e) e7 .e) e3 (.nd .e e11 .e)) ff (.nd (.nd .e e9 .e) e5 (.nd .e e13 .e))) (.str s) (.nd (.nd (.nd (.nd .e (iV 0) .e) e8 .e) e4 (.nd .e out .e)) (.ptr p 0) (.nd (.nd .e e10 .e) e6 (.nd .e nS .e)))),M',[],none⟩]∧Fr (p+1) p M M'∧fT (p+1) 2 M' out (tQ (acc++ts))∧(acc++ts).length<=s.length)∨
 (∃(j:Nat) (e3 e4 e5 e6 e7 e8 e9 e10 e11 out e13:d9) (M':Mem),l=.inl j∧r=some [⟨.ret,(.nd (.nd (.nd (.nd (.nd .e (iV 7) .e) e7 .e) e3 (.nd .e e11 .e)) ff (.nd (.nd .e e9 .e) e5 (.nd .e e13 .e))) (.str s) (.nd (.nd (.nd (.nd .e (iV (j:Int)) .e) e8 .e) e4 (.nd .e out .e)) (.ptr p 0) (.nd (.nd .e e10 .e) e6 (.nd .e nS .e)))),M',[],none⟩]∧Fr (p+1) p M M')
theorem Og.fr {s:By}{p:Nat}{a:List Tok}{M b:Mem}{r:Option (List Out)}{l:Sum Nat (List Tok)}(h:Og s p a b r l)(c:Fr (p+1) p M b):Og s p a M r l:=by rcases h with⟨ts,e3,e4,e5,e6,e7,e8,e9,e10,e11,out,e13,M',h1,h2,h3,h4⟩ | ⟨j,e3,e4,e5,e6,e7,e8,e9,e10,e11,out,e13,M',h1,h2,h3⟩;exact .inl ⟨ts,e3,e4,e5,e6,e7,e8,e9,e10,e11,out,e13,M',h1,h2,c.trans h3,h4⟩;exact .inr ⟨j,e3,e4,e5,e6,e7,e8,e9,e10,e11,out,e13,M',h1,h2,c.trans h3⟩
theorem YJ {m:Mem}{v:d9}(l:List By)(o:l.length<=100000)(g:jQ m v (strs l))(s:By)(cf:D7)(fu:Nat):∀(j i:Nat),i+j=l.length->∀(c x:d9) (N:Nat),j+1<=N->
  ∃i' c' x':d9,H7 (λenv m k=>Gq cf fu none env m k) N (.nd (.nd (.nd .e (.str s) .e) v (.nd .e ff .e)) (iV (i:Int)) (.nd (.nd .e x .e) c .e)) m [] =
   bi ((l.drop i).any λt=>decide (s=t)) (some [⟨.ret,(.nd (.nd (.nd .e (.str s) .e) v (.nd .e tt .e)) i' (.nd (.nd .e x' .e) c' .e)),m,[],none⟩]) (some [⟨.exit 0,(.nd (.nd (.nd .e (.str s) .e) v (.nd .e ff .e)) i' (.nd (.nd .e x' .e) c' .e)),m,[],none⟩]):=by
 intro j;induction j with
 | zero=>
  intro i u c x N r;obtain⟨N,rfl⟩:∃k,N=k+1:=⟨N-1,by omega⟩;obtain rfl:i=l.length:=by omega
  have d:=g.len;rw [nA] at d;refine⟨iV (l.length:Int),.bool false,x,?_⟩;rw [A9,ac6 (lM _)];simp [Gq,d]
 | succ j ih=>
  intro i u c x N r;obtain⟨N,rfl⟩:∃k,N=k+1:=⟨N-1,by omega⟩;have a:i<l.length:=by omega
  have d:=g.len;rw [nA] at d;obtain⟨id,w,h,y,f⟩:=g.at (i:=i) (by rw [nA];omega);have p:(strs l)[i]'(by rw [nA];exact a)=.str l[i]:=List.getElem_map ..;rw [p] at f;have n:l.drop i=l[i]::l.drop (i+1):=Xd a;by_cases ht:s=l[i];refine⟨iV (i:Int),.bool true,.bool true,?_⟩;have b:decide (l[i]=s)=true:=decide_eq_true ht.symm;rw [A9,n,List.any_cons,decide_eq_true ht,Bool.true_or];simp [Gq,d,a,h,f,b];have b:decide (l[i]=s)=false:=decide_eq_false λe=>ht e.symm;obtain⟨i',c',x',q⟩:=ih (i+1) (by omega) tt ff N (by omega);refine⟨i',c',x',?_⟩;rw [A9,n,List.any_cons,decide_eq_false ht,aaO,← q];simp [Gq,d,a,h,f,b,T9 (i:=i) (by omega)]
theorem acu {m:Mem}{v:d9}(l:List By)(c:l.length<=1000)(f:jQ m v (strs l))(s:By)(n fu:Nat)(d:1001<=fu):l9 KW fu (n+1) (.func 59) [v,.str s] m=some [⟨.bool (l.any λt=>decide (s=t)),m⟩]:=by obtain⟨j,i,o,g⟩:=YJ (m:=m) l (by omega) f s (l9 KW fu n) fu l.length 0 (by omega) .undef .undef fu (by omega);have b:H7 (λa m k=>Gq (l9 KW fu n) fu none a m k) fu (.nd (.nd (.nd .e (.str s) .e) v (.nd .e ff .e)) (iV 0) (.nd (.nd .e .undef .e) .undef .e)) m []=_:=g;rw [J4] at b;rw [enter (sf:=f59) rfl rfl];cases h:l.any λt=>decide (s=t)<;>rw [h] at b<;>simp [f59,b]
def Je (s:By)(p:Nat)(acc:List Tok)(M:Mem)(r:Option (List Out))(l:Sum Nat (List Tok)):Prop:=
 (∃(ts:List Tok) (e3 e4 e5 e6 e7 e8 e9 out e11:d9) (M':Mem),l=.inr ts∧r=some [⟨.exit 0,(.nd (.nd (.nd (.nd .e e7 .e) e3 (.nd .e e11 .e)) ff (.nd (.nd .e e9 .e) e5 .e)) (.str s) (.nd (.nd (.nd .e e8 .e) e4 .e) (.ptr p 0) (.nd (.nd .e out .e) e6 .e))),M',[],none⟩]∧Fr (p+1) p M M'∧M'.get p=some (r9 [nS,iV 0,iV 0])∧fT (p+1) 2 M' out (tQ (acc++ts))∧(acc++ts).length<=s.length)∨
 (∃(j:Nat) (e3 e4 e5 e6 e7 e8 e9 out e11:d9) (M':Mem),l=.inl j∧r=some [⟨.ret,(.nd (.nd (.nd (.nd .e e7 .e) e3 (.nd .e e11 .e)) ff (.nd (.nd .e e9 .e) e5 .e)) (.str s) (.nd (.nd (.nd .e e8 .e) e4 .e) (.ptr p 0) (.nd (.nd .e out .e) e6 .e))),M',[],none⟩]∧Fr (p+1) p M M'∧M'.get p=some (r9 [nS,iV 7,iV (j:Int)]))
theorem Je.fr {s:By}{p:Nat}{a:List Tok}{M b:Mem}{r:Option (List Out)}{l:Sum Nat (List Tok)}(h:Je s p a b r l)(c:Fr (p+1) p M b):Je s p a M r l:=by rcases h with⟨ts,e3,e4,e5,e6,e7,e8,e9,out,e11,M',h1,h2,h3,h4⟩ | ⟨j,e3,e4,e5,e6,e7,e8,e9,out,e11,M',h1,h2,h3,h4⟩;exact .inl ⟨ts,e3,e4,e5,e6,e7,e8,e9,out,e11,M',h1,h2,c.trans h3,h4⟩;exact .inr ⟨j,e3,e4,e5,e6,e7,e8,e9,out,e11,M',h1,h2,c.trans h3,h4⟩
@[simp] theorem ai2 (k:IntKind)(n:Int):G9 (.int k n)=true:=_root_.id rfl
@[simp] theorem ai3 (s:By):G9 (.str s)=true:=_root_.id rfl
@[simp] theorem af2 (b:Bool):G9 (.bool b)=true:=_root_.id rfl
def Jf (m m':Mem)(s:By)(v:d9)(e a:Int):Prop:=match ai0 0 s with
 | .inr ts=>fT m.nx 2 m' v (tQ ts)∧ts.length<=s.length∧e=0∧a=-1
 | .inl j=>v=nS∧e=7∧a=(j:Int)
@[simp] theorem aoR:Et .s=eqStr:=_root_.id rfl
theorem Jf.same {m m1 l g:Mem}{s:By}{i k:d9}{e c f d:Int}(a:Jf m m1 s i e c)(b:Jf l g s k f d):e=f∧c=d∧∃ts:List Tok,ts.length<=s.length∧aR m1 2 i (tQ ts)∧aR g 2 k (tQ ts):=by
 unfold Jf at a b;cases h:ai0 0 s with
 | inr ts=>rw [h] at a b;obtain⟨n,o,rfl,rfl⟩:=a;obtain⟨p,q,rfl,rfl⟩:=b;exact⟨rfl,rfl,ts,o,n.slice,p.slice⟩
 | inl j=>rw [h] at a b;obtain⟨rfl,rfl,rfl⟩:=a;obtain⟨rfl,rfl,rfl⟩:=b;exact⟨rfl,rfl,[],by simp,.inl ⟨rfl,rfl⟩,.inl ⟨rfl,rfl⟩⟩
mutual
def gQ:Ex->Nat
 | .mk _ _ _ a=>1+Z0 a
def Z0:List Ex->Nat
 | []=>0
 | e::l=>gQ e+Z0 l
end
mutual
def fA:Ex->Nat
 | .mk _ _ _ a=>1+aj a
def aj:List Ex->Nat
 | []=>0
 | e::l=>max (fA e) (aj l)
end
mutual
def stP:kG->Nat
 | .mk _ _ e t f=>1+Z0 e+nC t+nC f
def nC:List kG->Nat
 | []=>0
 | s::l=>stP s+nC l
end
mutual
def Ep:kG->Nat
 | .mk _ _ e t f=>1+max (aj e) (max (lV t) (lV f))
def lV:List kG->Nat
 | []=>0
 | s::l=>max (Ep s) (lV l)
end
def comb (a b:Nat×Nat):Nat×Nat:=(a.1+b.1,max a.2 b.2)
def jl (s:Nat×Nat)(l:List (Nat×Nat)):Nat×Nat:=l.foldl comb s
mutual
def bE:Nat->Ex->Nat×Nat
 | d,.mk _ _ _ a=>jl (1,1) (Bl d a)
def Bl:Nat->List Ex->List (Nat×Nat)
 | _,[]=>[]
 | 0,_ :: _=>[(0,21)]
 | d+1,e::l=>((bE d e).1,(bE d e).2+1)::Bl (d+1) l
end
mutual
def bSt:Nat->kG->Nat×Nat
 | d,.mk _ _ e t f=>comb (comb (jl (1,1) (Bl (d-1) e)) ((bS (d-1) t).1,(bS (d-1) t).2+1)) ((bS (d-1) f).1,(bS (d-1) f).2+1)
def bS:Nat->List kG->Nat×Nat
 | _,[]=>(0,0)
 | 0,_ :: _=>(0,21)
 | d+1,s::l=>comb (bSt (d+1) s) (bS (d+1) l)
end
theorem Gv:∀(l:List (Nat×Nat)) (s:Nat×Nat),(jl s l).1=s.1+(l.map (·.1)).sum∧s.2<=(jl s l).2∧(∀x∈l,x.2<=(jl s l).2)∧∀B,s.2<=B->(∀x∈l,x.2<=B)->(jl s l).2<=B
 | [],s=>⟨by simp [jl],lM _,by simp,λB h _=>h⟩
 | x::l,s=>by
  obtain⟨h1,h2,h3,h4⟩:=Gv l (comb s x);have e:jl s (x::l)=jl (comb s x) l:=rfl;rw [e];refine⟨?_,?_,?_,?_⟩;rw [h1];simp [comb];omega;have:s.2<=(comb s x).2:=by simp [comb];omega
  omega;intro y hy;rcases X4.1 hy with rfl | hy;have:y.2<=(comb s y).2:=by simp [comb];omega
  omega;exact h3 y hy;intro B hs hB;refine h4 B ?_ λy hy=>hB y (by simp [hy]);have:=hB x (by simp);simp [comb];omega
structure WOk (d:Nat)(a:List Ex)(w:List (Nat×Nat)):Prop where
 ex:aj a<=d->(w.map (·.1)).sum=Z0 a∧(∀x∈w,x.2<=aj a+1)∧(a≠[]->∃x∈w,x.2=aj a+1)
 big:d<aj a->∃x∈w,21<=x.2
 le:(w.map (·.1)).sum<=Z0 a
 lv:∀x∈w,x.2<=21+d
 len:w.length<=a.length
theorem LP {d:Nat}{a:List Ex}{w:List (Nat×Nat)}(h:WOk d a w):(aj a<=d->jl (1,1) w=(1+Z0 a,1+aj a))∧(d<aj a->21<=(jl (1,1) w).2)∧(jl (1,1) w).1<=1+Z0 a∧(jl (1,1) w).2<=21+d:=by
 obtain⟨f,p,g,i⟩:=Gv w (1,1);refine⟨λb=>?_,λb=>?_,?_,?_⟩;obtain⟨j,k,l⟩:=h.ex b;have m:(jl (1,1) w).2=1+aj a:=by by_cases ha:a=[];subst ha;have:w=[]:=aax.1 (Nat.le_zero.1 (by simpa using h.len));subst this;rfl;obtain⟨x,c,e⟩:=l ha;have n:=g x c;have o:=i (aj a+1) (by simp) k;omega
 rw [ad6];exact⟨by rw [f,j],m⟩;obtain⟨x,c,e⟩:=h.big b;have:=g x c;omega;rw [f];have:=h.le;simp;omega
 exact i _ (by simp;omega) h.lv
mutual
theorem PG:∀(e:Ex) (d:Nat),(fA e<=d+1->bE d e=(gQ e,fA e))∧(d+1<fA e->21<=(bE d e).2)∧(bE d e).1<=gQ e∧(bE d e).2<=21+d
 | .mk k n s a,d=>by have h:=LP (DU a d);rw [bE,fA,gQ];exact⟨λhd=>h.1 (by omega),λhd=>h.2.1 (by omega),h.2.2.1,h.2.2.2⟩
theorem DU:∀(a:List Ex) (d:Nat),WOk d a (Bl d a)
 | [],d=>⟨λ_=>⟨rfl,by simp [Bl],λh=>absurd rfl h⟩,λh=>by simp [aj] at h,by simp [Bl,Z0],by simp [Bl],by simp [Bl]⟩
 | e::l,0=>by
  have he:1<=fA e:=by cases e;simp [fA]
  refine⟨λh=>?_,λ_=>⟨(0,21),by simp [Bl],by simp⟩,by simp [Bl],by simp [Bl],by simp [Bl]⟩;rw [aj] at h;omega
 | e::l,d+1=>by
  obtain⟨h1,h2,h3,h4⟩:=PG e d;have H:=DU l (d+1);refine⟨λh=>?_,λh=>?_,?_,?_,?_⟩;rw [aj] at h;obtain⟨a1,a2,a3⟩:=H.ex (by omega);have e1:=h1 (by omega);rw [Bl,aj,Z0,e1];refine⟨by simp [a1],λx hx=>?_,λ_=>?_⟩;rcases X4.1 hx with rfl | hx;simp;omega;have:=a2 x hx;omega;by_cases hc:aj l<=fA e;exact⟨(gQ e,fA e+1),by simp,by simp;omega⟩;have hl:l≠[]:=by rintro rfl;simp [aj] at hc
  obtain⟨x,hx,hx2⟩:=a3 hl;exact⟨x,by simp [hx],by omega⟩;rw [aj] at h;rw [Bl];by_cases hc:d+1<fA e;have:=h2 hc;exact⟨((bE d e).1,(bE d e).2+1),by simp,by simp;omega⟩;obtain⟨x,hx,hx2⟩:=H.big (by omega);exact⟨x,by simp [hx],hx2⟩;rw [Bl,Z0];have:=H.le;simp;omega
  rw [Bl];intro x hx;rcases X4.1 hx with rfl | hx;simp;omega;exact H.lv x hx;rw [Bl];have:=H.len;simpa using this
end
mutual
theorem acv:∀(s:kG) (d:Nat),(Ep s<=d+1->bSt (d+1) s=(stP s,Ep s))∧(d+1<Ep s->21<=(bSt (d+1) s).2)∧(bSt (d+1) s).1<=stP s∧(bSt (d+1) s).2<=22+d
 | .mk k n e t f,d=>by obtain⟨e1,e2,e3,e4⟩:=LP (DU e d);obtain⟨t1,t2,t3,t4⟩:=Vr t d;obtain⟨f1,f2,f700,f701⟩:=Vr f d;rw [bSt,Ep,stP];simp only [ag8];refine⟨λh=>?_,λh=>?_,?_,?_⟩;rw [e1 (by omega),t1 (by omega),f1 (by omega)];simp only [comb];rw [ad6];exact⟨rfl,by simp only;omega⟩;simp only [comb];by_cases hc:d<aj e;have:=e2 hc;omega;by_cases hc2:d<lV t;have:=t2 hc2;omega;have:=f2 (by omega);omega;simp only [comb];omega;simp only [comb];omega
theorem Vr:∀(l:List kG) (d:Nat),(lV l<=d->bS d l=(nC l,lV l))∧(d<lV l->21<=(bS d l).2)∧(bS d l).1<=nC l∧(bS d l).2<=21+d
 | [],d=>⟨λ_=>by simp [bS,nC,lV],λh=>by simp [lV] at h,by simp [bS],by simp [bS]⟩
 | s::l,0=>by
  have hs:1<=Ep s:=by cases s;simp [Ep]
  refine⟨λh=>?_,λ_=>by simp [bS],by simp [bS],by simp [bS]⟩;rw [lV] at h;omega
 | s::l,d+1=>by obtain⟨s1,s2,s3,s4⟩:=acv s d;obtain⟨l1,l2,l3,l4⟩:=Vr l (d+1);rw [bS,lV,nC];simp only [comb];refine⟨λh=>?_,λh=>?_,?_,?_⟩;rw [s1 (by omega),l1 (by omega)];by_cases hc:d+1<Ep s;have:=s2 hc;omega;have:=l2 (by omega);omega;omega;omega
end
mutual
def rE:Nat->Ex->Nat×Nat
 | d,.mk _ _ _ a=>oH d a (1,1)
def oH:Nat->List Ex->Nat×Nat->Nat×Nat
 | _,[],o=>o
 | d,e::l,o=>if 500<o.1 then o else if 20<d then (501,21) else oH d l (o.1+(rE (d+1) e).1,max o.2 ((rE (d+1) e).2+1))
end
def WV:Nat->List Ex->Nat×Nat->Nat×Nat
 | _,[],o=>o
 | d,e::l,o=>if 500<o.1 then o else WV d l (o.1+(rE (d+1) e).1,max o.2 ((rE (d+1) e).2+1))
mutual
def WW:Nat->kG->Nat×Nat
 | d,.mk _ _ e t f=>if 20<d then (501,21) else
  ((WV d e (1,1)).1+(PI (d+1) t (0,0)).1+(PI (d+1) f (0,0)).1,max (WV d e (1,1)).2 (max ((PI (d+1) t (0,0)).2+1) ((PI (d+1) f (0,0)).2+1)))
def PI:Nat->List kG->Nat×Nat->Nat×Nat
 | _,[],o=>o
 | d,s::l,o=>if 500<o.1 then o else PI d l (o.1+(WW d s).1,max o.2 (WW d s).2)
end
mutual
theorem PL:∀(e:Ex) (d:Nat),d<=21->(fA e+d<=22∧gQ e<=500->rE d e=(gQ e,fA e))∧(¬ (fA e+d<=22∧gQ e<=500)->501<=(rE d e).1)∧(rE d e).1<=501+500*(21-d)∧(rE d e).2<=21+(21-d)
 | .mk k n s a,d,hd=>by obtain⟨h1,h2,h3,h4⟩:=LQ a d 1 1 hd (by omega) (by omega);rw [rE,fA,gQ];refine⟨λh=>?_,λh=>h2 (by omega),h3 (by omega),h4⟩;rw [h1 (by omega),ad6];exact⟨rfl,by simp only;omega⟩
theorem LQ:∀(a:List Ex) (d p l:Nat),d<=21->1<=l->l<=21+(21-d)->(aj a+d<=21∧p+Z0 a<=500->oH d a (p,l)=(p+Z0 a,max l (aj a+1)))∧(¬ (aj a+d<=21∧p+Z0 a<=500)->501<=(oH d a (p,l)).1)∧
  (p<=501+500*(21-d)->(oH d a (p,l)).1<=501+500*(21-d))∧(oH d a (p,l)).2<=21+(21-d)
 | [],d,p,l,hd,hl,hl2=>by rw [oH,aj,Z0];refine⟨λh=>?_,λh=>by simp only;omega,λh=>h,hl2⟩;rw [ad6];exact⟨rfl,by simp only;omega⟩
 | e::a,d,p,l,hd,hl,hl2=>by
  have he:1<=fA e∧1<=gQ e:=by cases e;simp [fA,gQ]
  rw [oH];by_cases hp:500<p;rw [if_pos hp];exact⟨λh=>by omega,λ_=>by simp only;omega,λh=>h,hl2⟩;rw [if_neg hp];by_cases h20:20<d;rw [if_pos h20,aj];exact⟨λh=>by omega,λ_=>by simp,λ_=>by simp only;omega,by simp only;omega⟩;rw [if_neg h20];obtain⟨e1,e2,e3,e4⟩:=PL e (d+1) (by omega);have hl3:max l ((rE (d+1) e).2+1)<=21+(21-d):=by omega
  obtain⟨a1,a2,a3,a4⟩:=LQ a d (p+(rE (d+1) e).1) (max l ((rE (d+1) e).2+1)) hd (by omega) hl3;rw [aj,Z0];refine⟨λh=>?_,λh=>?_,λh=>a3 (by omega),a4⟩;have x:=e1 (by omega);rw [x] at a1 ⊢;rw [a1 (by simp only;omega),ad6];exact⟨by simp only;omega,by simp only;omega⟩;by_cases hc:fA e+(d+1)<=22∧gQ e<=500;have x:=e1 hc;rw [x] at a2 ⊢;exact a2 (by simp only;omega);have x:=e2 hc;refine a2 ?_;omega
end
theorem Vs:∀(a:List Ex) (d p l:Nat),d<=20->1<=l->l<=21+(21-d)->(aj a+d<=21∧p+Z0 a<=500->WV d a (p,l)=(p+Z0 a,max l (aj a+1)))∧(¬ (aj a+d<=21∧p+Z0 a<=500)->501<=(WV d a (p,l)).1)∧
  (p<=501+500*(21-d)->(WV d a (p,l)).1<=501+500*(21-d))∧(WV d a (p,l)).2<=21+(21-d)∧1<=(WV d a (p,l)).2
 | [],d,p,l,hd,hl,hl2=>by rw [WV,aj,Z0];refine⟨λh=>?_,λh=>by simp only;omega,λh=>h,hl2,hl⟩;rw [ad6];exact⟨rfl,by simp only;omega⟩
 | e::a,d,p,l,hd,hl,hl2=>by rw [WV];by_cases hp:500<p;rw [if_pos hp];exact⟨λh=>by omega,λ_=>by simp only;omega,λh=>h,hl2,hl⟩;rw [if_neg hp];obtain⟨e1,e2,e3,e4⟩:=PL e (d+1) (by omega);obtain⟨a1,a2,a3,a4,a5⟩:=Vs a d (p+(rE (d+1) e).1) (max l ((rE (d+1) e).2+1)) hd (by omega) (by omega);rw [aj,Z0];refine⟨λh=>?_,λh=>?_,λh=>a3 (by omega),a4,a5⟩;have x:=e1 (by omega);rw [x] at a1 ⊢;rw [a1 (by simp only;omega),ad6];exact⟨by simp only;omega,by simp only;omega⟩;by_cases hc:fA e+(d+1)<=22∧gQ e<=500;have x:=e1 hc;rw [x] at a2 ⊢;exact a2 (by simp only;omega);have x:=e2 hc;exact a2 (by omega)
mutual
theorem acw:∀(s:kG) (d:Nat),1<=d->d<=21->(Ep s+d<=21∧stP s<=500->WW d s=(stP s,Ep s))∧(¬ (Ep s+d<=21∧stP s<=500)->501<=(WW d s).1∨22<=(WW d s).2+d)∧(WW d s).1<=20000*3^(21-d)∧(WW d s).2+d<=64
 | .mk k n e t f,d,hd1,hd=>by
  rw [WW];by_cases h20:20<d;rw [if_pos h20,Ep];refine⟨λh=>by omega,λ_=>by simp,?_,by simp only;omega⟩;have:=Nat.one_le_pow (21-d) 3 (by omega);simp only;omega;rw [if_neg h20];obtain⟨e1,e2,e3,e4,e5⟩:=Vs e d 1 1 (by omega) (by omega) (by omega);obtain⟨t1,t2,t3,t4⟩:=Oh t (d+1) 0 0 (by omega) (by omega) (by omega);obtain⟨f1,f2,f700,f701⟩:=Oh f (d+1) 0 0 (by omega) (by omega) (by omega);rw [Ep,stP];refine⟨λh=>?_,λh=>?_,?_,?_⟩;rw [e1 (by omega),t1 (by omega),f1 (by omega),ad6];exact⟨by simp only;omega,by simp only;omega⟩;by_cases hc:aj e+d<=21∧1+Z0 e<=500;by_cases hc2:lV t+(d+1)<=21∧0+nC t<=500;by_cases hc3:lV f+(d+1)<=21∧0+nC f<=500;rw [e1 hc,t1 hc2,f1 hc3];simp only;omega;have:=f2 hc3;simp only;omega;have:=t2 hc2;simp only;omega;have:=e2 hc;simp only;omega;have a1:=e3 (by omega);have a2:=t3 (by omega);have a3:=f700 (by omega);have hp:3^(21-d)=3*3^(21-(d+1)):=by rw [show 21-d=(21-(d+1))+1 from by omega,ajE];omega
  have:=Nat.one_le_pow (21-(d+1)) 3 (by omega);simp only;omega;simp only;omega
theorem Oh:∀(l:List kG) (d p v:Nat),1<=d->d<=21->v+d<=64->(lV l+d<=21∧p+nC l<=500->PI d l (p,v)=(p+nC l,max v (lV l)))∧(¬ (lV l+d<=21∧p+nC l<=500)->501<=(PI d l (p,v)).1∨22<=(PI d l (p,v)).2+d)∧
  (p<=500+20000*3^(21-d)->(PI d l (p,v)).1<=500+20000*3^(21-d))∧(PI d l (p,v)).2+d<=64∧p<=(PI d l (p,v)).1∧v<=(PI d l (p,v)).2
 | [],d,p,v,hd1,hd,hv=>by rw [PI,lV,nC];refine⟨λh=>?_,λh=>by simp only;omega,λh=>h,hv,lM _,lM _⟩;rw [ad6];exact⟨rfl,by simp only;omega⟩
 | s::l,d,p,v,hd1,hd,hv=>by
  have hs:1<=Ep s∧1<=stP s:=by cases s;simp [Ep,stP];omega
  rw [PI];by_cases hp:500<p;rw [if_pos hp];exact⟨λh=>by omega,λ_=>by simp only;omega,λh=>h,hv,lM _,lM _⟩;rw [if_neg hp];dsimp only at hp ⊢;obtain⟨s1,s2,s3,s4⟩:=acw s d hd1 hd;obtain⟨l1,l2,l3,l4,l5,l6⟩:=Oh l d (p+(WW d s).1) (max v (WW d s).2) hd1 hd (by omega);rw [lV,nC];refine⟨λh=>?_,λh=>?_,λh=>l3 (by omega),l4,by omega,by omega⟩;have x:=s1 (by omega);rw [x] at l1 ⊢;rw [l1 (by simp only;omega),ad6];exact⟨by simp only;omega,by simp only;omega⟩;by_cases hc:Ep s+d<=21∧stP s<=500;have x:=s1 hc;rw [x] at l2 ⊢;exact l2 (by simp only;omega);have x:=s2 hc;rcases x with x | x;exact .inl (by omega);exact .inr (by omega)
end
def L8 (x:Nat×Nat):List d9:=[iV (x.1:Int),iV (x.2:Int)]
def jm (l:List (Nat×Nat)):List (List d9):=l.map L8
theorem wL (l:List (Nat×Nat)):(jm l).length=l.length:=by simp [jm]
def Small (l:List (Nat×Nat)):Prop:=l.length<=100000∧∀x∈l,x.1<=10000000000000∧x.2<=1000000
theorem LU {β:Type}{m:Mem}(d:m.Ok){p:Nat}(hp:p<m.nx)(c:m.lim<=p)(l:List N7)(off:Nat)(a:List d9)(k:Mem->Option β):storeAt (ext m l) p off a k=bi (K4 a) (ob (Ga (m.get p) off a) λb=>k ((ext m l).set p b)) none:=by rw [wH (by rw [Pj];exact c),oD d l hp]
structure At (p:Nat)(m M:Mem):Prop where
 lt:p<m.nx
 limp:m.lim<=p
 fr:Fr m.nx p m M
section
variable {p:Nat}{m M M':Mem}
theorem At.ok (h:At p m M):M.Ok:=h.fr.ok
theorem At.YK (h:At p m M):p<M.nx:=q9 h.lt h.fr.nx
theorem At.lim (h:At p m M):M.lim<=p:=by rw [h.fr.lim];exact h.limp
theorem At.YL (h:At p m M):M.lim<=M.nx:=J2 h.lim (aeQ h.YK)
theorem At.start (b:m.Ok)(hp:p<m.nx)(a:m.lim<=p):At p m m:=⟨hp,a,Fr.refl b⟩
theorem At.nx (h:At p m M)(e:Ext M M'):At p m M':=⟨h.lt,h.limp,h.fr.trans (e.fr h.fr.nx)⟩
theorem At.set (h:At p m M)(b:N7):At p m (M.set p b):=
 ⟨h.lt,h.limp,h.fr.trans ⟨Mem.Ok.set h.ok h.YK _,by simp,by simp,λi c a=>K6 h.ok _ h.YK a⟩⟩
theorem At.ext {a:Mem}(h:At p m M)(e:Ext a m)(hp:a.nx<=p):Ext a M:=⟨h.ok,J2 e.nx h.fr.nx,h.fr.lim.trans e.lim,λi b=>(h.fr.old i (q9 b e.nx) (by omega)).trans (e.old i b)⟩
end
theorem ai4 (a b:Nat):((max a b:Nat):Int)=max (a:Int) b:=by omega
theorem PN {x y:OF}{ls:List d9}{env:T d9}{a b:Int}(c:x ls env=.int .i64 a)(d:y ls env=.int .i64 b):Sv true x [y] ls env=some (iV (max a b)):=by show ob (mm2 true (x ls env) (y ls env)) some=_;rw [c,d];show some (d9.int .i64 (bi (nP a b) b a))=_;rw [gF];by_cases h:a<b;rw [decide_eq_true h,U0,Int.max_def,if_pos (by omega)];rw [decide_eq_false h,O6,Int.max_def];split<;>first | rfl | (congr 2;omega)
theorem YM {m:Mem}{p:Nat}{v:d9}{a0 b0:Int}{cf:D7}{fu:Nat}(l:List (Nat×Nat))(hs:Small l)(V:∀M,At p m M->aR M 2 v (jm l))(U:qj v (some (d9.int .i64 0)) (λ_ _ n _=>some (iV n)) (λ_ _ n _=>some (iV n))=some (.int .i64 l.length)):
  ∀(j i:Nat),i+j=l.length->∀(s:Nat×Nat) (c x:d9) (M:Mem) (N:Nat),At p m M->M.get p=some (r9 (L8 s))->s.1<=20000000000000*(i+1)->s.2<=1000000->j+1<=N->
  ∃c' x' M',H7 (λenv m k=>LD cf fu none env m k) N (ML (.agg [iV a0,iV b0]) v (iV (i:Int)) (iV (l.length:Int)) c v (.ptr p 0) x (.ptr (p+1) 0)) M []=some [⟨.exit 0,(ML (.agg [iV a0,iV b0]) v (iV (l.length:Int)) (iV (l.length:Int)) c' v (.ptr p 0) x' (.ptr (p+1) 0)),M',[],none⟩]∧At p m M'∧M'.get p=some (r9 (L8 (jl s (l.drop i)))):=by
 have E:=U;have T:=hs.1;intro j;induction j with
 | zero=>
  intro i R s c x M N d w r t P;obtain⟨N,rfl⟩:∃k,N=k+1:=⟨N-1,by omega⟩;obtain rfl:i=l.length:=by omega
  refine⟨.bool false,x,M,?_,d,?_⟩;rw [A9];simp [LD];rw [aaC];exact w
 | succ j ih=>
  intro i R s c x M N d w r t P;obtain⟨N,rfl⟩:∃k,N=k+1:=⟨N-1,by omega⟩;have e:i<l.length:=by omega
  have h:i<(jm l).length:=by rw [wL];exact e
  have g:=d.ok;have S:=d.YL;have F:=d.YK;have B:=d.lim;obtain⟨Y,o1,H,a2,a3,I,a5⟩:=(V M d).at h;have o:(jm l)[i]=L8 l[i]:=by simp [jm]
  have f:=I 0 2 (by omega) (by omega);rw [o] at f;have C:=hs.2 l[i] (aaA e);have Q:l.drop i=l[i]::l.drop (i+1):=Xd e;generalize hX:l[i]=X at *;obtain⟨u,D⟩:=X;obtain⟨z,G⟩:=s;simp only [Y5,L8,J4,agu,List.take_zero] at f w C r t;have Z:=λ(β:Type) (l:List N7) (off:Nat) (vs:List d9) (k:Mem->Option β)=>LU (β:=β) g F B l off vs k;have O:=λ(l:List N7)=>oD g l F;have A:=(d.nx (J5 g [r9 [iV (u:Int),iV (D:Int)]])).set (r9 (L8 (comb (z,G) (u,D))));obtain⟨c',x',M',L,J,K⟩:=ih (i+1) (by omega) (comb (z,G) (u,D)) tt (.ptr M.nx 0) _ N A (R3 (d.nx (J5 g _)).ok _ (d.nx (J5 g _)).YK rfl) (by simp [comb];omega) (by simp [comb];omega) (by omega);have q:=λx y ls env a b C W=>PN (x:=x) (y:=y) (ls:=ls) (env:=env) (a:=a) (b:=b) C W;have w1:tX ((z:Int)+(u:Int))=((z+u:Nat):Int):=by rw [U8 (by omega) (by omega)];rfl
  refine⟨c',x',M',?_,J,?_⟩;rw [A9,← L];simp [LD,lU g S,Z,O,w,H,f,e,L8,comb,T9 (i:=i) (by omega),q,w1,ai4];rw [Q];exact K
theorem acy {m:Mem}(c:m.Ok)(p:m.lim<=m.nx){v:d9}(s:Nat×Nat)(l:List (Nat×Nat))(hs:Small l)(q:aR m 2 v (jm l))(A:s.1<=20000000000000)(w:s.2<=1000000)(n fu:Nat)(e:l.length+1<=fu):
  ∃m',l9 KW fu (n+1) (.func 62) [.agg (L8 s),v] m=some [⟨.agg (L8 (jl s l)),m'⟩]∧Ext m m':=by
 have j:=q.len;rw [wL] at j;have E:=J5 c [r9 (L8 s),r9 [iV 0,iV 0]];have x:At m.nx (ext m [r9 (L8 s),r9 [iV 0,iV 0]]) _:=At.start E.ok (by simp) (by rw [E.lim];exact p);obtain⟨z,H,M',g,a,o⟩:=YM (cf:=l9 KW fu n) (fu:=fu) (a0:=(s.1:Int)) (b0:=(s.2:Int)) l hs (λM h=>q.ext (h.ext E (lM _))) j l.length 0 (by omega) s .undef .undef (_) fu x (by rw [D6 c];rfl) (by omega) w e;have t:H7 (λd m k=>LD (l9 KW fu n) fu none d m k) fu (ML (.agg [iV (s.1:Int),iV (s.2:Int)]) v (iV 0) (iV (l.length:Int)) .undef v (.ptr m.nx 0) .undef (.ptr (m.nx+1) 0)) (ext m [r9 (L8 s),r9 [iV 0,iV 0]]) []=_:=g;have f:M'.get (m.nx+1)=some (r9 [iV 0,iV 0]):=by rw [a.fr.old _ (by simp) (by omega),G6 c];rfl
 have b:m.nx+1<M'.nx:=q9 (by simp) a.fr.nx;have i:M'.lim<=m.nx+1:=by have:=a.lim;omega
 have y:=sB i;have u:∀B,(M'.set (m.nx+1) B).get (m.nx+1)=some B:=λB=>R3 a.ok _ b rfl;have EM:=a.ext E (lM _);refine⟨M'.set (m.nx+1) (r9 (L8 (jl s l))),?_,?_⟩;rw [J4] at o;rw [enter (sf:=f62) rfl rfl];generalize jl s l=r at *;obtain⟨C,D⟩:=r;obtain⟨F,G⟩:=s;simp only [L8] at *;simp [f62,lU c p,G9,j,t,o,f,y,u];exact EM.set b (by omega) _
theorem bs2 (z:List d9)(ps:List (Nat×Nat×OF))(ls:List d9)(env:T d9)(a:Nat)(h:z.length=2):R6 2 1 z ps ls env a=ob (lay ps ls env z) λcells=>if cells.length=2 then some (.slice a 0 1 1,some (r9 cells)) else none:=Dm 2 z ps ls env a h
theorem vF.ext {m m':Mem}{S:Nat->Prop}{a:List Ex}{v:d9}(h:vF m S a v)(e:Ext m m'):vF m' S a v:=by obtain⟨b,d,f⟩:=h;exact⟨b,d.mono e.nx (λi c _=>e.old i c) λ_ _ h=>h,G8.mono e.nx (λi c _=>e.old i c) (λ_ _ h=>h) a b f⟩
theorem PO:∀(l:List (Nat×Nat)) (x:Nat×Nat),x∈l->x.1<=(l.map (·.1)).sum
 | y::l,x,h=>by simp only [Y6,aeH];rcases X4.1 h with rfl | h;omega;have:=PO l x h;omega
theorem V3:∀l:List Ex,l.length<=Z0 l
 | []=>by simp
 | e::l=>by have:=V3 l;have:1<=gQ e:=by {cases e;simp [gQ]};simp [Z0];omega
theorem jo:∀(l:List Ex) (i:Nat) (h:i<l.length),gQ l[i]<=Z0 l
 | e::l,0,h=>by simp [Z0]
 | e::l,i+1,h=>by have:=jo l i (by simpa using h);simp [Z0];omega
theorem Vt (d:Nat)(a:List Ex)(c:d<=100)(h:Z0 a<=10000):Small (Bl d a):=by
 have w:=DU a d;refine⟨by have:=w.len;have:=V3 a;omega,λx b=>⟨?_,?_⟩⟩;have:=PO _ x b;have:=w.le;omega
 have:=w.lv x b;omega
def C76 (K:Known)(n fu d:Nat):Prop:=∀(m:Mem) (v:d9) (a:List Ex),m.Ok->m.lim<=m.nx->vF m (λ_=>True) a v->Z0 a<=10000->
 ∃out m',l9 K fu n (.func 63) [v,iV (d:Int)] m=some [⟨out,m'⟩]∧Ext m m'∧fT m.nx 2 m' out (jm (Bl d a))
theorem Vu {n fu d:Nat}(D:d<=100)(F:20000<=fu)(j:C76 KW (n+1) fu d){m:Mem}(q:m.Ok)(o:m.lim<=m.nx){row:List d9}{e:Ex}(h:bU m (λ_=>True) e row)(hp:gQ e<=10000):
  ∃m',l9 KW fu (n+2) (.func 28) [.agg row,iV (d:Int)] m=some [⟨.agg (L8 (bE d e)),m'⟩]∧Ext m m':=by
 obtain⟨k,s,u,a⟩:=e;obtain⟨v,f,rfl,i,A⟩:=h;rw [gQ] at hp;have C:=i.slice.G9;have l:=i.slice.cells;have E:=J5 q [r9 (r4 k s u v),r9 [iV 0,iV 0]];obtain⟨t,H,x,E1,O1⟩:=j (ext m [r9 (r4 k s u v),r9 [iV 0,iV 0]]) v a E.ok (by rw [E.lim];exact J2 o E.nx) (vF.ext ⟨f,i,A⟩ E) (by omega);have w:=Vt d a D (by omega);obtain⟨c,y,E2⟩:=acy E1.ok (by rw [E1.lim,E.lim];exact J2 o (J2 E.nx E1.nx)) (1,1) (Bl d a) w O1.slice (by simp) (by simp) n fu (by have:=w.1;have:=(DU a d).len;have:=V3 a;omega);have g:l9 KW fu (n+1) (.func 62) [.agg [iV 1,iV 1],t] H=_:=y;have b:m.nx+1<c.nx:=q9 (by simp) (J2 E1.nx E2.nx);have p:c.lim<=m.nx+1:=by rw [E2.lim,E1.lim,E.lim];omega
 have J:=sB p;have G:c.get (m.nx+1)=some (r9 [iV 0,iV 0]):=by rw [E2.old _ (q9 (by simp) E1.nx),E1.old _ (by simp),G6 q];rfl
 have z:∀B,(c.set (m.nx+1) B).get (m.nx+1)=some B:=λB=>R3 E2.ok _ b rfl;have I:=pnR O1.slice;refine⟨c.set (m.nx+1) (r9 (L8 (bE d (.mk k s u a)))),?_,(E.trans (E1.trans E2)).set b (by omega) _⟩;rw [enter (sf:=f28) rfl rfl];rw [bE];generalize jl (1,1) (Bl d a)=r at *;obtain⟨K,L⟩:=r;simp only [L8] at *;simp [f28,lU q o,G9,C,l,x,g,J,G,z,I]
theorem YN {n fu d:Nat}(hd:d<=100)(H:20000<=fu)(C:C76 KW (n+1) fu d){m:Mem}(hm:m.Ok)(V:m.lim<=m.nx){v:d9}{rows:List (List d9)}(a:List Ex)(T:oW m (λ_=>True) 4 v rows)(U:G8 m (λ_=>True) a rows)(hp:Z0 a<=10000):
  ∀(j i:Nat),i+j=a.length->∀(acc:List (Nat×Nat)) (c3 c6 out x8 x9:d9) (M:Mem) (N:Nat),Ext m M->fT m.nx 2 M out (jm acc)->acc.length<=i->j+1<=N->
  ∃c3' c6' out' x8' x9' M',H7 (λenv m k=>DT (l9 KW fu (n+2)) fu none env m k) N (EY v (iV (i:Int)) (iV (a.length:Int)) c3 v (.int .i64 ((d:Int)+1)) c6 out x8 x9 nS) M []=some [⟨.exit 0,(EY v (iV (a.length:Int)) (iV (a.length:Int)) c3' v (.int .i64 ((d:Int)+1)) c6' out' x8' x9' nS),M',[],none⟩]∧
   Ext m M'∧fT m.nx 2 M' out' (jm (acc++Bl (d+1) (a.drop i))):=by
 have q:=G8.len U;have z:=T.slice.len;rw [q] at z;have a0:=V3 a;intro j;induction j with
 | zero=>
  intro i B acc c3 c6 out x8 x9 M N E O F hN;obtain⟨N,rfl⟩:∃k,N=k+1:=⟨N-1,by omega⟩;obtain rfl:i=a.length:=by omega
  refine⟨.bool false,c6,out,x8,x9,M,?_,E,?_⟩;rw [A9];simp [DT];rw [aaC,Bl,agq];exact O
 | succ j ih=>
  intro i B acc c3 c6 out x8 x9 M N E O F hN;obtain⟨N,rfl⟩:∃k,N=k+1:=⟨N-1,by omega⟩;have h:i<a.length:=by omega
  have l:i<rows.length:=by omega
  have D:=E.ok;have p:M.lim<=M.nx:=by rw [E.lim];exact J2 V E.nx
  obtain⟨a7,o1,Y,a2,a3,Z,a5⟩:=(T.slice.ext E).at l;have o:=G8.get U i h l;have J:=o.row;have y:=Z 0 4 (by omega) (by omega);rw [J4,Y7 (by omega),Y5] at y;have G:a.drop i=a[i]::a.drop (i+1):=Xd h;have a6:=jo a i h;have u:bU M (λ_=>True) a[i] rows[i]:=SK E o;generalize hX:a[i]=X at *;generalize hR:rows[i]=R at *;have E1:=J5 D [r9 R];obtain⟨x,P,E2⟩:=Vu hd H C E1.ok (by rw [E1.lim];exact J2 p E1.nx) (e:=X) (row:=R) (SK E1 u) (by omega);have hs:(bE d X).1<=gQ X∧(bE d X).2<=21+d:=⟨(PG X d).2.2.1,(PG X d).2.2.2⟩;generalize hb:bE d X=b at *;obtain⟨f,c⟩:=b;simp only at hs;have s:=E2.ok;have I:x.lim<=x.nx:=by rw [E2.lim,E1.lim];exact J2 p (J2 E1.nx E2.nx)
  have E3:=J5 s [r9 (L8 (f,c)),r9 (L8 (f,c+1))];have hx:aR (ext x [r9 (L8 (f,c)),r9 (L8 (f,c+1))]) 2 (.slice (x.nx+1) 0 1 1) [L8 (f,c+1)]:=by have:=UM (zC s [r9 (L8 (f,c))]) (L8 (f,c+1)) (by simp [L8]);exact this
  have O3:=((O.ext E1).ext E2).ext E3;have Eall:=E.trans (E1.trans (E2.trans E3));obtain⟨v5,M5,Q,t,F5,W⟩:=UL (lo:=m.nx) (rs:=2) (bytes:=16) (r:=L8 (f,c+1)) E3.ok (by rw [Eall.lim];exact V) Eall.nx (by omega) O3 hx (by simp [L8]) (by simp [L8,G9]) (by rw [wL];omega) ⟨by omega,by omega⟩;have po:=pnR t.slice;have w:jm acc ++ [L8 (f,c+1)]=jm (acc ++ [(f,c+1)]):=by simp [jm]
  rw [w] at t;have EM5:Ext m M5:=⟨F5.ok,J2 Eall.nx F5.nx,F5.lim.trans Eall.lim,λi B=>(F5.old i B (by omega)).trans (Eall.old i B)⟩;obtain⟨c3',c6',out',x8',x9',M',S,q1,q2⟩:=ih (i+1) (by omega) (acc ++ [(f,c+1)]) tt ff v5 (.ptr M.nx 0) (.ptr x.nx 0) M5 N EM5 t (by simp;omega) (by omega);refine⟨c3',c6',out',x8',x9',M',?_,q1,?_⟩;obtain⟨x1,x2,x3,x4,x5,x6⟩:=acs D p;obtain⟨y1,y2,y3,y4,y5,y6⟩:=acs s I;have gR:x.get M.nx=some (r9 R):=by rw [E2.old _ (by simp),D6 D];rfl
  have w2:tX ((c:Int)+1)=(c:Int)+1:=U8 (by omega) (by omega);have w3:tX (d:Int)=(d:Int):=U8 (by omega) (by omega);have ed:decide ((d:Int)+1<=0)=false:=decide_eq_false (by omega);obtain⟨g,A⟩:=J;have L:Ga (some (r9 (r4 0 0 [] nS))) 0 R=some (r9 R):=by rw [tC (by simp [g]) (by simp)];simp [g]
  have K:MG (some (r9 R)) 0 4=some (.agg R):=by rw [tu (by omega) (by omega),J4,Y7 (by omega)]
  simp only [L8,show ((c+1:Nat):Int)=(c:Int)+1 from rfl] at Q P S ⊢;rw [A9,← S];simp [DT,G7,I8,x1,x2,x3,x4,x5,x6,y1,y2,y3,y4,y5,y6,G9,Y,y,h,g,A,L,K,P,gR,w2,w3,ed,Q,po,bs2,T9 (i:=i) (by omega)];rw [G,Bl,hb];simpa using q2
theorem acz (n fu:Nat)(C:20000<=fu):∀d:Nat,d<=100->C76 KW (n+2*d+1) fu d:=by
 intro d;induction d with
 | zero=>
  intro U m v a j s h K;obtain⟨o,u,l⟩:=h;have b:=G8.len l;have c:=u.slice.len;rw [b] at c;match a,l with
  | [],l=>refine⟨nS,m,?_,Ext.refl j,fT.nil _ _ _⟩;obtain⟨fu,rfl⟩:∃k,fu=k+1:=⟨fu-1,by omega⟩;rw [enter (sf:=f63) rfl rfl];simp [f63,DT,A9,lU j s,G9,c]
  | e::a,l=>
   obtain⟨F,W,N,a2,a3,O,a5⟩:=u.slice.at (i:=0) (by rw [b];simp);have y:=G8.get l 0 (by simp) (by rw [b];simp);have E:=y.row;have t:=O 0 4 (by omega) (by omega);rw [J4,Y7 (by omega),Y5] at t;generalize hR:o[0]'(by rw [b];simp)=R at *;have E3:=J5 j [r9 R,r9 (L8 (0,21))];have V:aR (ext m [r9 R,r9 (L8 (0,21))]) 2 (.slice (m.nx+1) 0 1 1) [L8 (0,21)]:=by have:=UM (zC j [r9 R]) (L8 (0,21)) (by simp [L8]);exact this
   obtain⟨Y,M5,I,w,F5,L⟩:=UL (lo:=m.nx) (rs:=2) (bytes:=16) (r:=L8 (0,21)) E3.ok (by rw [E3.lim];exact s) E3.nx (by omega) (fT.nil _ _ _) V (by simp [L8]) (by simp [L8,G9]) (by simp) ⟨by omega,by omega⟩;have G:=pnR w.slice;refine⟨Y,M5,?_,⟨F5.ok,J2 E3.nx F5.nx,F5.lim.trans E3.lim,λi J=>(F5.old i J (by omega)).trans (E3.old i J)⟩,by simpa [Bl,jm] using w⟩;obtain⟨f,x⟩:=E;have H:Ga (some (r9 (r4 0 0 [] nS))) 0 R=some (r9 R):=by rw [tC (by simp [f]) (by simp)];simp [f]
   obtain⟨fu,rfl⟩:∃k,fu=k+1:=⟨fu-1,by omega⟩;have D:(0:Int)<((a.length:Int)+1):=by omega
   rw [enter (sf:=f63) rfl rfl];simp only [L8,show ((0:Nat):Int)=0 from rfl,show ((21:Nat):Int)=21 from rfl] at I ⊢;have A:qj v none (λid q p _=>if 0<p then some (d9.ptr id q) else none) (λid q p _=>if 0<p then some (d9.ptr id q) else none)=some (.ptr F W):=by simpa using N
   simp [f63,DT,A9,lU j s,G9,c,D,A,t,f,x,H,I,G,bs2]
 | succ d ih=>intro U m v a j s h K;obtain⟨o,u,l⟩:=h;have b:=G8.len l;have c:=u.slice.len;rw [b] at c;have T:=V3 a;obtain⟨P,Q,z,Z,a0,M',g,X,M⟩:=YN (n:=n+2*d) (fu:=fu) (d:=d) (by omega) C (ih (by omega)) j s a u l K a.length 0 (by omega) [] .undef .undef nS .undef .undef m fu (Ext.refl j) (fT.nil _ _ _) (by simp) (by omega);have S:H7 (λB m k=>DT (l9 KW fu (n+2*d+2)) fu none B m k) fu (EY v (iV 0) (iV (a.length:Int)) .undef v (.int .i64 ((d:Int)+1)) .undef nS .undef .undef nS) m []=_:=g;refine⟨z,M',?_,X,by simpa using M⟩;have G:=pnR M.slice;rw [show n+2*(d+1)+1=(n+2*d+2)+1 from by omega,enter (sf:=f63) rfl rfl];simp [f63,lU j s,G9,c,S,G]
theorem acA (n fu d:Nat)(a:20000<=fu)(b:d<=100)(c:2*d+1<=n):C76 KW n fu d:=by
 have:=acz (n-(2*d+1)) fu a d b
 rwa [show n-(2*d+1)+2*d+1=n from by omega] at this
theorem UN.ext {m m':Mem}{S:Nat->Prop}{a:List kG}{v:d9}(h:UN m S a v)(e:Ext m m'):UN m' S a v:=by obtain⟨b,d,f⟩:=h;exact⟨b,d.mono e.nx (λi c _=>e.old i c) λ_ _ h=>h,bA.mono e.nx (λi c _=>e.old i c) (λ_ _ h=>h) a b f⟩
def acB (K:Known)(n fu d:Nat):Prop:=∀(m:Mem) (row:List d9) (e:Ex),m.Ok->m.lim<=m.nx->bU m (λ_=>True) e row->gQ e<=10000->
 ∃m',l9 K fu n (.func 39) [.agg row,iV (d:Int)] m=some [⟨.agg (L8 (rE d e)),m'⟩]∧Ext m m'
theorem YO {n fu d:Nat}(a9:1<=d)(hd:d<=20)(aa:20000<=fu)(J:acB KW n fu (d+1)){m:Mem}{p:Nat}(hm:m.Ok)(hp:p+2<m.nx)(hl:m.lim<=p){k0 n0:Int}{s0:By}{v:d9}{rows:List (List d9)}(O:m.get p=some (r9 (r4 k0 n0 s0 v)))(l:List Ex)(V:oW m (λi=>i<p) 4 v rows)(h2:G8 m (λi=>i<p) l rows)(ad:Z0 l<=10000):
  ∀(j i:Nat),i+j=l.length->∀(s:Nat×Nat) (c c6 x8:d9) (M:Mem) (N:Nat),At (p+2) m M->M.get (p+2)=some (r9 (L8 s))->s.1<=20000->s.2<=1000->j+1<=N->
  ∃xi c' c6' x8' M',H7 (λenv m k=>AA (l9 KW fu n) fu none env m k) N (ML (.agg (r4 k0 n0 s0 v)) (iV (i:Int)) (.ptr p 0) (.ptr (p+2) 0) c (iV (d:Int)) c6 (.ptr (p+1) 0) x8) M [] =
   some [⟨.exit 0,(ML (.agg (r4 k0 n0 s0 v)) xi (.ptr p 0) (.ptr (p+2) 0) c' (iV (d:Int)) c6' (.ptr (p+1) 0) x8'),M',[],none⟩]∧At (p+2) m M'∧M'.get (p+2)=some (r9 (L8 (oH d (l.drop i) s))):=by
 have E:=G8.len h2;have f:=V.slice.len;rw [E] at f;have ab:=V3 l;intro j;induction j with
 | zero=>
  intro i hi s c c6 x8 M N g D Q S hN;obtain⟨N,rfl⟩:∃k,N=k+1:=⟨N-1,by omega⟩;obtain rfl:i=l.length:=by omega
  have e:M.get p=some (r9 (r4 k0 n0 s0 v)):=by rw [g.fr.old p (by omega) (by omega),O]
  refine⟨iV (l.length:Int),.bool false,c6,x8,M,?_,g,?_⟩;rw [A9];simp [AA,e,f];rw [aaC,oH,D]
 | succ j ih=>
  intro i hi s c c6 x8 M N g D Q S hN;obtain⟨N,rfl⟩:∃k,N=k+1:=⟨N-1,by omega⟩;have r:i<l.length:=by omega
  have u:i<rows.length:=by omega
  have w:(i:Int)<(l.length:Int):=by omega
  have hM:=g.ok;have Z:=g.YL;have e:M.get p=some (r9 (r4 k0 n0 s0 v)):=by rw [g.fr.old p (by omega) (by omega),O]
  have K:l.drop i=l[i]::l.drop (i+1):=Xd r;rw [K,oH];by_cases h500:500<s.1;have h5:¬ (s.1:Int)<=500:=by omega
  obtain⟨t,U⟩:=s;simp only [L8] at D h5 h500;refine⟨iV (i:Int),.bool false,c6,x8,M,?_,g,?_⟩;have W:¬ t<=500:=by omega
  rw [A9];simp [AA,e,D,f,r,w,h5,W];rw [if_pos h500];simpa [L8] using D;have pr:∀i,i<m.nx->i<p->M.get i=m.get i:=λi hi hq=>g.fr.old i hi (by omega);obtain⟨af,o1,a1,a2,a3,a4,a5⟩:=(oW.mono V g.fr.nx pr (S':=λi=>i<p) λ_ _ h=>h).slice.at u;have z:=G8.get h2 i r u;have ae:=z.row;have I:=a4 0 4 (by omega) (by omega);rw [J4,Y7 (by omega),Y5] at I;have ac:=jo l i r;have F:bU M (λ_=>True) l[i] rows[i]:=bU.mono g.fr.nx pr (λ_ _ _=>trivial) _ _ z;generalize hX:l[i]=X at *;generalize hR:rows[i]=R at *;obtain⟨m2,g2,E2⟩:=J M R X hM Z F (by omega);have hb:=PL X (d+1) (by omega);have a0:(rE (d+1) X).1<=15000∧(rE (d+1) X).2<=50:=⟨by have:=hb.2.2.1;omega,by have:=hb.2.2.2;omega⟩;generalize hB:rE (d+1) X=B at *;obtain⟨G,H⟩:=B;obtain⟨t,U⟩:=s;simp only at a0 h500 Q S;have o:=g.nx E2;have E3:=J5 E2.ok [r9 (L8 (G,H))];have A:=o.nx E3;have Y:=A.set (r9 (L8 (t+G,max U (H+1))));obtain⟨a8,c',c6',x8',M',gg,q1,q2⟩:=ih (i+1) (by omega) (t+G,max U (H+1)) tt ff (.ptr m2.nx 0) _ N Y (R3 A.ok _ A.YK rfl) (by simp only;omega) (by simp only;omega) (by omega);refine⟨a8,c',c6',x8',M',?_,q1,?_⟩;obtain⟨y1,y2,y3,y4,y5,y6⟩:=acs E2.ok o.YL;have P:m2.get (p+2)=some (r9 (L8 (t,U))):=(E2.old _ g.YK).trans D;have a6:(ext m2 [r9 (L8 (G,H))]).get (p+2)=some (r9 (L8 (t,U))):=by rw [oD E2.ok _ o.YK,P]
  have so:=λ(β:Type) (l:List N7) (off:Nat) (vs:List d9) (k:Mem->Option β)=>LU (β:=β) E2.ok o.YK o.lim l off vs k;have a7:(t:Int)<=500:=by omega
  have T:t<=500:=by omega
  have L:¬ (20:Int)<(d:Int):=by omega
  have C:¬ 20<d:=by omega
  have w1:tX ((d:Int)+1)=(d:Int)+1:=U8 (by omega) (by omega);have w2:tX ((H:Int)+1)=(H:Int)+1:=U8 (by omega) (by omega);have w3:tX ((t:Int)+(G:Int))=(t:Int)+(G:Int):=U8 (by omega) (by omega);have q:=λx y ls env a b hx hy=>PN (x:=x) (y:=y) (ls:=ls) (env:=env) (a:=a) (b:=b) hx hy;have cv:=V.slice.cells;simp only [L8,show ((d+1:Nat):Int)=(d:Int)+1 from rfl] at *;rw [A9,← gg];simp [AA,G7,I8,y1,y2,y3,y4,y5,y6,e,D,f,r,w,a7,T,L,C,a1,I,g2,P,a6,so,w1,w2,w3,q,ai4,T9 (i:=i) (by omega)];rw [if_neg h500,if_neg (by omega)];exact q2
theorem YP (fu:Nat)(G:20000<=fu):∀r n d:Nat,1<=d->d<=21->21-d<=r->acB KW (n+r+1) fu d:=by
 intro r;induction r with
 | zero=>
  intro n d u L T m K e f w h M;obtain rfl:d=21:=by omega
  obtain⟨l,o,q,a⟩:=e;obtain⟨v,y,rfl,s,t⟩:=h;have c:=G8.len t;have b:=s.slice.len;rw [c] at b;have z:=s.slice.cells;have A:=s.slice.G9;obtain⟨fu,rfl⟩:∃k,fu=k+1:=⟨fu-1,by omega⟩;match a,t with
  | [],t=>refine⟨ext m [r9 (r4 l o q v),r9 (L8 (1,1)),r9 (L8 (1,1))],?_,J5 f _⟩;rw [enter (sf:=f39) rfl rfl];simp [f39,AA,A9,lU f w,G9,b,z,A,rE,oH,L8]
  | e::a,t=>
   refine⟨ext m [r9 (r4 l o q v),r9 (L8 (501,21)),r9 (L8 (1,1))],?_,J5 f _⟩;have j:(0:Int)<((a.length:Int)+1):=by omega
   rw [enter (sf:=f39) rfl rfl];simp [f39,AA,A9,lU f w,G9,b,z,A,j,rE,oH,L8]
 | succ r ih=>
  intro n d u L T;by_cases hz:21-d<=r;have:=ih (n+1) d u L hz
  rwa [show n+1+r+1=n+(r+1)+1 from by omega] at this
  intro m K e f w h M;obtain⟨l,o,q,a⟩:=e;obtain⟨v,y,rfl,s,t⟩:=h;have c:=G8.len t;have b:=s.slice.len;rw [c] at b;have z:=s.slice.cells;have A:=s.slice.G9;rw [gQ] at M;have S:=V3 a;have E:=J5 f [r9 (r4 l o q v),r9 (L8 (0,0)),r9 (L8 (1,1))];have R:At (m.nx+2) (ext m [r9 (r4 l o q v),r9 (L8 (0,0)),r9 (L8 (1,1))]) _:=At.start E.ok (by simp) (by rw [E.lim];omega);have D:=oW.mono (m':=ext m [r9 (r4 l o q v),r9 (L8 (0,0)),r9 (L8 (1,1))]) s E.nx (λi I _=>E.old i I) (S':=λi=>i<m.nx) λ_ h _=>h;have F:=G8.mono (S':=λi=>i<m.nx) E.nx (λi I _=>E.old i I) (λ_ h _=>h) _ _ t;obtain⟨Z,W,O,V,M',g,x,N⟩:=YO (n:=n+r+1) (p:=m.nx) u (by omega) G (ih n (d+1) (by omega) (by omega) (by omega)) E.ok (by simp) (by rw [E.lim];exact w) (by rw [D6 f];rfl) a D F (by omega) a.length 0 (by omega) (1,1) .undef .undef .undef (_) fu R (by rw [G6 f];rfl) (by simp) (by simp) (by omega);have P:H7 (λC m k=>AA (l9 KW fu (n+r+1)) fu none C m k) fu (ML (.agg (r4 l o q v)) (iV 0) (.ptr m.nx 0) (.ptr (m.nx+2) 0) .undef (iV (d:Int)) .undef (.ptr (m.nx+1) 0) .undef) (ext m [r9 (r4 l o q v),r9 [iV 0,iV 0],r9 [iV 1,iV 1]]) []=_:=g;rw [J4] at N;have H:M'.get (m.nx+1)=some (r9 [iV 0,iV 0]):=by rw [x.fr.old _ (by simp) (by omega),G6 f];rfl
  have j:m.nx+1<M'.nx:=q9 (by simp) x.fr.nx;have J:M'.lim<=m.nx+1:=by have:=x.fr.lim;rw [E.lim] at this;omega
  have U:=sB J;have Q:∀B,(M'.set (m.nx+1) B).get (m.nx+1)=some B:=λB=>R3 x.ok _ j rfl;refine⟨M'.set (m.nx+1) (r9 (L8 (rE d (.mk l o q a)))),?_,(x.ext E (by omega)).set j (by omega) _⟩;rw [rE];generalize oH d a (1,1)=r at *;obtain⟨X,Y⟩:=r;simp only [L8] at *;rw [show n+(r+1)+1=(n+r+1)+1 from by omega,enter (sf:=f39) rfl rfl];simp [f39,lU f w,G9,z,A,P,H,N,U,Q]
theorem acC (n fu d:Nat)(b:20000<=fu)(a:1<=d)(c:d<=21)(e:30<=n):acB KW n fu d:=by
 have:=YP fu b 25 (n-26) d a c (by omega)
 rwa [show n-26+25+1=n from by omega] at this
theorem kI:∀(l:List Ex) (i:Nat) (h:i<l.length),fA l[i]<=aj l
 | e::l,0,h=>by simp [aj];omega
 | e::l,i+1,h=>by have:=kI l i (by simpa using h);simp [aj];omega
end
end Go.Proofs.YtcnimimffiiimaaGreatDoor.TT
