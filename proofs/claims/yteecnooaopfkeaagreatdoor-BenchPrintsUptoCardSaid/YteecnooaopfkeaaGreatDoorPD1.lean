/- Counting statements, walked; conditions: the memory holds what the arguments say. -/
import Derived.Test.YteecnooaopfkeaaGreatDoorPB4
import GoSem.Core.Utf8
import Derived.Lib.AtoiAll
import Derived.Lib.ItoaNum
set_option linter.all false
namespace Go.Proofs.YteecnooaopfkeaaGreatDoor.TT
open Go Go.AM
noncomputable section
abbrev By:=List UInt8
def su (b:UInt8):Bool:=decide (97<=b.toNat)&&decide (b.toNat<=122)
def Bq (b:UInt8):Bool:=decide (48<=b.toNat)&&decide (b.toNat<=57)
def Gh (b:UInt8):Bool:=su b||Bq b
def NV (p:UInt8->Bool):By->Nat
 | []=>0
 | b::s=>if p b then NV p s+1 else 0
def air (s:By):Nat:=s.foldl (λn b=>10*n+(b.toNat-48)) 0
def ais (s:By):Bool:=decide (s=[60,61])||decide (s=[62,61])||decide (s=[61,61])||decide (s=[33,61])
def ones:By:=[123,125,40,41,44,59,61,43,45,42,47,37,60,62]
def aoE (s:By):Option (Nat×Nat):=match s with
 | []=>none
 | b :: _=>
  if su b then (if NV Gh s<=16 then some (1,NV Gh s) else none)
  else if Bq b then (if (b=48∧1<NV Bq s)∨9007199254740992<air (s.take (NV Bq s)) then none else some (2,NV Bq s))
  else if ais (s.take 2) then some (3,2)
  else if ones.contains b then some (3,1) else none
abbrev Tok:=Nat×By
def ZF:Nat->Nat->By->Sum Nat (List Tok)
 | 0,_,_=>.inr []
 | _+1,_,[]=>.inr []
 | n+1,i,b::t=>
  if b=32∨b=10 then ZF n (i+1) t
  else if b=35 then ZF n (i+NV (λc=>c != 10) (b::t)) ((b::t).drop (NV (λc=>c != 10) (b::t)))
  else match aoE (b::t) with
   | none=>.inl i
   | some (k,l)=>match ZF n (i+l) ((b::t).drop l) with
    | .inl j=>.inl j
    | .inr ts=>.inr ((k,(b::t).take l)::ts)
def ait (i:Nat)(s:By):Sum Nat (List Tok):=ZF s.length i s
theorem Jb (s:By)(i:Nat)(h:i<s.length):((s[i]).toNat<128∧Utf8.decode ⟨s.toArray⟩ i=((s[i]).toNat,1))∨
  (128<=(s[i]).toNat∧128<=(Utf8.decode ⟨s.toArray⟩ i).1∧(Utf8.decode ⟨s.toArray⟩ i).1<2147483648∧1<=(Utf8.decode ⟨s.toArray⟩ i).2∧i+(Utf8.decode ⟨s.toArray⟩ i).2<=s.length∧
   ∀j (hj:j<s.length),i<=j->j<i+(Utf8.decode ⟨s.toArray⟩ i).2->128<=(s[j]).toNat):=by
 have g:∀k (d:i+k<s.length),(ByteArray.get! ⟨s.toArray⟩ (i+k)).toNat=(s[i+k]).toNat:=λk d=>by show ((s.toArray)[i+k]!).toNat=_;rw [getElem!_pos s.toArray (i+k) (by simpa using d)];simp
 have n:=g 0 (by omega);simp only [Y3] at n;have c:∀k,(decide (i+k<ByteArray.size ⟨s.toArray⟩)&&(ByteArray.get! ⟨s.toArray⟩ (i+k)).toNat / 64==2)=true->∃d:i+k<s.length,(s[i+k]).toNat / 64=2:=λk d=>by
  simp only [U9,decide_eq_true_eq,beq_iff_eq] at d;have a:i+k<s.length:=by simpa [ByteArray.size] using d.1
  exact⟨a,by rw [← g k a];exact d.2⟩
 have u:=UInt8.toNat_lt s[i];unfold Utf8.decode;simp only [Y3,n];by_cases h0:(s[i]).toNat<128;left;exact⟨h0,by rw [if_pos h0]⟩;right;rw [if_neg h0];have l:∀j (hj:j<s.length),i<=j->j<i+1->128<=(s[j]).toNat:=λj hj a b=>by
  obtain rfl:j=i:=by omega
  omega
 have f:∀{p:Nat×Nat},p=(Utf8.runeError,1)->(128<=p.1∧p.1<2147483648∧1<=p.2∧i+p.2<=s.length∧∀j (hj:j<s.length),i<=j->j<i+p.2->128<=(s[j]).toNat):=λh=>by subst h;exact⟨by decide,by decide,by decide,by show i+1<=_;omega,l⟩
 refine⟨by omega,?_⟩;split;rename_i a;rw [U9] at a;obtain⟨o,m⟩:=c 1 a.2;split;rename_i b;refine⟨b,?_,(by show 1<=2;omega),by show i+2<=_;omega,λj hj q e=>?_⟩;show _ + _<2147483648;omega;have:j=i∨j=i+1:=by simp only at e;omega
 rcases this with rfl | rfl;omega;omega;exact f rfl;split;rename_i a;rw [U9,U9] at a;obtain⟨o,m⟩:=c 1 a.1.2;obtain⟨t,r⟩:=c 2 a.2;split;rename_i b;rw [U9,decide_eq_true_eq] at b;refine⟨aA (by decide) b.1,?_,(by show 1<=3;omega),by show i+3<=_;omega,λj hj q e=>?_⟩;show _ + _ + _<2147483648;omega;have:j=i∨j=i+1∨j=i+2:=by simp only at e;omega
 rcases this with rfl | rfl | rfl<;>omega
 exact f rfl;split;rename_i a;rw [U9,U9,U9] at a;obtain⟨o,m⟩:=c 1 a.1.1.2;obtain⟨t,r⟩:=c 2 a.1.2;obtain⟨w,v⟩:=c 3 a.2;split;rename_i b;rw [U9,decide_eq_true_eq] at b;refine⟨aA (by decide) b.1,?_,(by show 1<=4;omega),by show i+4<=_;omega,λj hj q e=>?_⟩;show _ + _ + _ + _<2147483648;omega;have:j=i∨j=i+1∨j=i+2∨j=i+3:=by simp only at e;omega
 rcases this with rfl | rfl | rfl | rfl<;>omega
 exact f rfl;exact f rfl
abbrev nS:d9:=.nilSlice
abbrev iV (a:Int):d9:=.int .i64 a
abbrev r4 (a b:Int)(c:List UInt8)(d:d9):List d9:=[.int .i64 a,.int .i64 b,.str c,d]
abbrev r5 (a:Int)(b:List UInt8)(c d e:d9):List d9:=[.int .i64 a,.str b,c,d,e]
abbrev r6 (a b:Int)(c:List UInt8)(d:d9)(e:Int)(f:Bool):List d9:=[.int .i64 a,.int .i64 b,.str c,d,.int .i64 e,.bool f]
abbrev r7 (a:Int)(b:List UInt8)(c d e:d9)(f:Int)(g:Bool):List d9:=[.int .i64 a,.str b,c,d,e,.int .i64 f,.bool g]
abbrev r3 (a:d9)(b:Int)(c:Bool):List d9:=[a,.int .i64 b,.bool c]
attribute [simp] nS iV r3 r4 r5 r6 r7 lS cB tQ acN YW VP acM SV gY ku
attribute [simp] I J S U Z A V tt ff ny zcK OA
abbrev nV5 (a0 a1 a2 a3 a4:d9):T d9:=(.nd (.nd (.nd .e a3 .e) a1 .e) a0 (.nd (.nd .e a4 .e) a2 .e))
abbrev GR (a0 a1 a2 a3 a4 a5:d9):T d9:=(.nd (.nd (.nd .e a3 .e) a1 (.nd .e a5 .e)) a0 (.nd (.nd .e a4 .e) a2 .e))
abbrev XZ (a0 a1 a2 a3 a4 a5 a6:d9):T d9:=(.nd (.nd (.nd .e a3 .e) a1 (.nd .e a5 .e)) a0 (.nd (.nd .e a4 .e) a2 (.nd .e a6 .e)))
abbrev Ai (a0 a1 a2 a3 a4 a5 a6 a7:d9):T d9:=(.nd (.nd (.nd (.nd .e a7 .e) a3 .e) a1 (.nd .e a5 .e)) a0 (.nd (.nd .e a4 .e) a2 (.nd .e a6 .e)))
abbrev Ya (a0 a1 a2 a3 a4 a5 a6 a7 a8:d9):T d9:=(.nd (.nd (.nd (.nd .e a7 .e) a3 .e) a1 (.nd .e a5 .e)) a0 (.nd (.nd (.nd .e a8 .e) a4 .e) a2 (.nd .e a6 .e)))
abbrev yu (a0 a1 a2 a3 a4 a5 a6 a7 a8 a9:d9):T d9:=(.nd (.nd (.nd (.nd .e a7 .e) a3 .e) a1 (.nd (.nd .e a9 .e) a5 .e)) a0 (.nd (.nd (.nd .e a8 .e) a4 .e) a2 (.nd .e a6 .e)))
abbrev fF (a0 a1 a2 a3 a4 a5 a6 a7 a8 a9 a10:d9):T d9:=(.nd (.nd (.nd (.nd .e a7 .e) a3 .e) a1 (.nd (.nd .e a9 .e) a5 .e)) a0 (.nd (.nd (.nd .e a8 .e) a4 .e) a2 (.nd (.nd .e a10 .e) a6 .e)))
abbrev adD (a0 a1 a2 a3 a4 a5 a6 a7 a8 a9 a10 a11:d9):T d9:=(.nd (.nd (.nd (.nd .e a7 .e) a3 (.nd .e a11 .e)) a1 (.nd (.nd .e a9 .e) a5 .e)) a0 (.nd (.nd (.nd .e a8 .e) a4 .e) a2 (.nd (.nd .e a10 .e) a6 .e)))
abbrev Br (a0 a1 a2 a3 a4 a5 a6 a7 a8 a9 a10 a11 a12:d9):T d9:=(.nd (.nd (.nd (.nd .e a7 .e) a3 (.nd .e a11 .e)) a1 (.nd (.nd .e a9 .e) a5 .e)) a0 (.nd (.nd (.nd .e a8 .e) a4 (.nd .e a12 .e)) a2 (.nd (.nd .e a10 .e) a6 .e)))
abbrev aoF (a0 a1 a2 a3 a4 a5 a6 a7 a8 a9 a10 a11 a12 a13 a14:d9):T d9:=(.nd (.nd (.nd (.nd .e a7 .e) a3 (.nd .e a11 .e)) a1 (.nd (.nd .e a9 .e) a5 (.nd .e a13 .e))) a0 (.nd (.nd (.nd .e a8 .e) a4 (.nd .e a12 .e)) a2 (.nd (.nd .e a10 .e) a6 (.nd .e a14 .e))))
abbrev kE (a0 a1 a2 a3 a4 a5 a6 a7 a8 a9 a10 a11 a12 a13 a14 a15:d9):T d9:=(.nd (.nd (.nd (.nd (.nd .e a15 .e) a7 .e) a3 (.nd .e a11 .e)) a1 (.nd (.nd .e a9 .e) a5 (.nd .e a13 .e))) a0 (.nd (.nd (.nd .e a8 .e) a4 (.nd .e a12 .e)) a2 (.nd (.nd .e a10 .e) a6 (.nd .e a14 .e))))
abbrev KH (a0 a1 a2 a3 a4 a5 a6 a7 a8 a9 a10 a11 a12 a13 a14 a15 a16:d9):T d9:=(.nd (.nd (.nd (.nd (.nd .e a15 .e) a7 .e) a3 (.nd .e a11 .e)) a1 (.nd (.nd .e a9 .e) a5 (.nd .e a13 .e))) a0 (.nd (.nd (.nd (.nd .e a16 .e) a8 .e) a4 (.nd .e a12 .e)) a2 (.nd (.nd .e a10 .e) a6 (.nd .e a14 .e))))
abbrev Qb (a0 a1 a2 a3 a4 a5 a6 a7 a8 a9 a10 a11 a12 a13 a14 a15 a16 a17:d9):T d9:=(.nd (.nd (.nd (.nd (.nd .e a15 .e) a7 .e) a3 (.nd .e a11 .e)) a1 (.nd (.nd (.nd .e a17 .e) a9 .e) a5 (.nd .e a13 .e))) a0 (.nd (.nd (.nd (.nd .e a16 .e) a8 .e) a4 (.nd .e a12 .e)) a2 (.nd (.nd .e a10 .e) a6 (.nd .e a14 .e))))
abbrev nA (a0 a1 a2 a3 a4 a5 a6 a7 a8 a9 a10 a11 a12 a13 a14 a15 a16 a17 a18 a19:d9):T d9:=(.nd (.nd (.nd (.nd (.nd .e a15 .e) a7 .e) a3 (.nd (.nd .e a19 .e) a11 .e)) a1 (.nd (.nd (.nd .e a17 .e) a9 .e) a5 (.nd .e a13 .e))) a0 (.nd (.nd (.nd (.nd .e a16 .e) a8 .e) a4 (.nd .e a12 .e)) a2 (.nd (.nd (.nd .e a18 .e) a10 .e) a6 (.nd .e a14 .e))))
attribute [simp] nV5 GR XZ Ai Ya yu fF adD Br aoF kE KH Qb nA
theorem P5 {m:Mem}(a:m.Ok)(d:m.lim<=m.nx):(∀(m:Mem) b,m.new b=ext m [b])∧(∀(m:Mem) l l',ext (ext m l) l'=ext m (l++l'))∧(∀l,(ext m l).get m.nx=l[0]?)∧(∀l c,(ext m l).get (m.nx+c)=l[c]?)∧
  (∀(β:Type) l c off vs (k:Mem->Option β),storeAt (ext m l) (m.nx+c) off vs k=bi (K7 vs) (ob (Go.AM.vS l[c]? off vs) λb=>k (ext m (l.set c b))) none)∧
  (∀(β:Type) l off vs (k:Mem->Option β),storeAt (ext m l) m.nx off vs k=bi (K7 vs) (ob (Go.AM.vS l[0]? off vs) λb=>k (ext m (l.set 0 b))) none)∧
  (∀(l:List Q6) c b,c<l.length->(ext m l).set (m.nx+c) b=ext m (l.set c b))∧∀(l:List Q6) b,0<l.length->(ext m l).set m.nx b=ext m (l.set 0 b):=
 ⟨I5,J5,u7 a,V9 a,λβ l c off vs k=>Bh a d l c off vs k,λβ l off vs k=>uW a d l off vs k,pV a,zI a⟩
theorem Q0 {α:Type}:(∀a b:List α,(a++b).length=a.length+b.length)∧(∀(x:α) l,(x::l).length=l.length+1)∧([]:List α).length=0:=⟨λ_ _=>Z5,λ_ _=>rfl,rfl⟩
theorem U0 {α:Type}:(∀a b c:List α,a++b++c=a++(b++c))∧(∀(x:α) l l',x::l++l'=x::(l++l'))∧∀l:List α,[]++l=l:=⟨afy,λ_ _ _=>rfl,λ_=>rfl⟩
section
variable {m m':Mem}{S:Nat->Prop}(E:Ext m m')
include E
theorem rsE {rs:Nat}{v:d9}{l:List (List d9)}(h:gM m S rs v l):gM m' S rs v l:=h.mono E.nx (λi a _=>E.old i a) (λ_ _ h=>h)
theorem Cu {e:Ex}{r:List d9}(h:bF m S e r):bF m' S e r:=bF.mono E.nx (λi a _=>E.old i a) (λ_ _ h=>h) _ _ h
theorem CV {e:List Ex}{r:List (List d9)}(h:H6 m S e r):H6 m' S e r:=H6.mono E.nx (λi a _=>E.old i a) (λ_ _ h=>h) _ _ h
theorem ZG {e:aR}{r:List d9}(h:lD m S e r):lD m' S e r:=lD.mono E.nx (λi a _=>E.old i a) (λ_ _ h=>h) _ _ h
theorem nC {e:List aR}{r:List (List d9)}(h:I4 m S e r):I4 m' S e r:=I4.mono E.nx (λi a _=>E.old i a) (λ_ _ h=>h) _ _ h
end
theorem sB {m:Mem}{id:Nat}(h:m.lim<=id)(β:Type)(off:Nat)(a:List d9)(k:Mem->Option β):storeAt m id off a k=bi (K7 a) (ob (vS (m.get id) off a) λb=>k (m.set id b)) none:=rX h off a k
theorem Us {m:Mem}{rs:Nat}{v:d9}{l:List (List d9)}(h:gK m rs v l)(β:Type)(p:d9->β)(q:β):bU v p q=q:=h.lY p q
def Rm (f:Nat):Bool:=Nat.beq f 7||(Nat.beq f 50||(Nat.beq f 114||Nat.beq f 187))
def aoG (f:FuncId):Option W9:=(fns f).map λsf=>{sf with pure:=Rm f}
def adF (f:FuncId)(args:List d9)(bs:List NB):Option BJ:=match bs with
 | []=>match args with
  | [.str s,.str [c]]=>if f=50 then some ⟨.bool (Za c s),[]⟩ else none
  | [.int .i64 n]=>if f=187∧0<=n∧n<=9223372036854775807 then some ⟨.str (Lib.itoa n),[]⟩ else none
  | _=>none
 | _=>none
def FK (f:FuncId)(args:List d9)(bs:List NB):Option BJ:=if f=7 then sumOf [⟨7,[],[],.bool true,[]⟩] f args bs else if f=114 then VX 94 375 114 13 f args bs else adF f args bs
def aoH (f:FuncId)(args:List d9)(m:Mem):eD:=bi (Nat.beq f 83) (vW args m) (bi (Nat.beq f 97) (nu args m) none)
def KW:Known:=⟨aoG,base,FK,aoH⟩
theorem enter {n fu:Nat}{f:FuncId}{sf:W9}{c:List d9}{m:Mem}(h:fns f=some sf)(e:Rm f=false)(d:Nat.beq f 97=false:=by rfl)(b:Nat.beq f 83=false:=by rfl):
  l7 KW fu (n+1) (.func f) c m=lS (l7 KW fu n) (uh KW (l7 KW fu n) fu) fu sf c m:=by
 rw [dM];have h:KW.fns f=some {sf with pure:=false}:=by show (fns f).map _=_;rw [h,e];rfl
 have a:KW.eff f c m=none:=by show bi (Nat.beq f 83) _ (bi (Nat.beq f 97) _ none)=none;rw [d,b];rfl
 simp only [h,a,K6,R5];rfl
theorem KI {n fu:Nat}{f:FuncId}{sf:W9}{c:List d9}{m:Mem}(h:fns f=some sf)(e:Rm f=true)(d:Nat.beq f 97=false:=by rfl)(b:Nat.beq f 83=false:=by rfl):
  l7 KW fu (n+1) (.func f) c m=iR KW (l7 KW fu n) fu f {sf with pure:=true} c m:=by
 rw [dM];have h:KW.fns f=some {sf with pure:=true}:=by show (fns f).map _=_;rw [h,e];rfl
 have a:KW.eff f c m=none:=by show bi (Nat.beq f 83) _ (bi (Nat.beq f 97) _ none)=none;rw [d,b];rfl
 simp only [h,a,K6];rfl
theorem NW {lo:Nat}{l:List d9}(m:Mem)(b:sW lo l=[])(c:∀r,kI r l=some l):je lo l m=some ⟨[],l,[]⟩:=by show ob (reach m lo (99999+1) (sW lo l) []) _=_;rw [b,Fw];show ob (kI (wz lo []) l) (λd=>ob (some []) λa=>some (⟨[],d,a⟩:CO))=_;rw [c];rfl
theorem KJ {n fu:Nat}{a:List d9}{m:Mem}{o:List VM}(h:vW a m=some o):l7 KW fu (n+1) (.func 83) a m=some o:=by rw [dM];have b:KW.eff 83 a m=some o:=h;show (Option.rec _ (λl=>some l) (KW.eff 83 a m):eD)=_;rw [b]
theorem TI (n fu:Nat)(m:Mem):l7 KW fu (n+1) (.func 7) [] m=some [⟨.bool true,m⟩]:=by
 obtain⟨sf,b⟩:∃sf,fns 7=some sf:=⟨_,rfl⟩;rw [KI (sf:=sf) b rfl,Dj (K:=KW) (c:=⟨[],[],[]⟩) (a:=⟨.bool true,[]⟩) (NW m rfl λ_=>rfl)
  (by show FK 7 [] []=_;rw [FK,if_pos rfl];rfl)]
 rfl
theorem ZH (i:Int)(h0:0<=i)(d:i<=9223372036854775807)(n fu:Nat)(m:Mem):l7 KW fu (n+1) (.func 187) [.int .i64 i] m=some [⟨.str (Lib.itoa i),m⟩]:=by
 obtain⟨sf,b⟩:∃sf,fns 187=some sf:=⟨_,rfl⟩;rw [KI (sf:=sf) b rfl,Dj (K:=KW) (c:=⟨[],[.int .i64 i],[]⟩) (a:=⟨.str (Lib.itoa i),[]⟩) (Fx m rfl λ_=>rfl)
  (by show FK 187 [.int .i64 i] []=_;rw [FK,if_neg (by decide),if_neg (by decide)];show (if 187=187∧0<=i∧i<=9223372036854775807 then _ else _)=_;rw [if_pos ⟨rfl,h0,d⟩])]
 rfl
theorem ZI {lo:Nat}(f:13<=lo){m:Mem}{v:d9}{l:List (List UInt8)}(h:tF lo m v l)(d:List UInt8)(i:l.length<1000000)(g:(aW d l).length<1000000)(n fu:Nat):
  l7 KW fu (n+1) (.func 114) [v,.str d] m=some [⟨.str (aW d l),m⟩]:=by
 obtain⟨sf,e⟩:∃sf,fns 114=some sf:=⟨_,rfl⟩;rcases agZ h (b:=base.nx) f d with⟨rfl,hc⟩ | ⟨id,hne,hc⟩;rw [KI (sf:=sf) e rfl,Dj (K:=KW) (c:=⟨[],[.nilSlice,.str d],[]⟩) (a:=⟨.str [],[]⟩) hc
  (by show FK 114 [.nilSlice,.str d] []=_;rw [FK,if_neg (by decide),if_pos rfl];rfl)]
 rfl;rw [KI (sf:=sf) e rfl,Dj (K:=KW) (c:=⟨[id],[.sliceU base.nx 0 l.length 1,.str d],[.cells 1 (l.map λw=>[.str w])]⟩) (a:=⟨.str (aW d l),[]⟩) hc
  (by show FK 114 [.sliceU base.nx 0 l.length 1,.str d] [.cells 1 (l.map λw=>[d9.str w])]=_;rw [FK,if_neg (by decide),if_pos rfl];exact Tn rfl rfl i g)]
 rfl
set_option maxRecDepth 100000
set_option maxHeartbeats 4000000
theorem WE (b:UInt8)(n fu:Nat)(m:Mem):l7 KW fu (n+1) (.func 45) [.int .u8 (b.toNat:Nat)] m=some [⟨.bool (su b),m⟩]:=by
 rw [enter (sf:=f45) rfl rfl];have a:decide ((97:Int)<=((b.toNat:Nat):Int))=decide (97<=b.toNat):=by rw [abE];simp only [decide_eq_true_eq];omega
 have c:decide (((b.toNat:Nat):Int)<=(122:Int))=decide (b.toNat<=122):=by rw [abE];simp only [decide_eq_true_eq];omega
 by_cases h:97<=b.toNat<;>simp [f45,su,a,c,h]
theorem adG (b:UInt8)(n fu:Nat)(m:Mem):l7 KW fu (n+1) (.func 47) [.int .u8 (b.toNat:Nat)] m=some [⟨.bool (Bq b),m⟩]:=by
 rw [enter (sf:=f47) rfl rfl];have a:decide ((48:Int)<=((b.toNat:Nat):Int))=decide (48<=b.toNat):=by rw [abE];simp only [decide_eq_true_eq];omega
 have c:decide (((b.toNat:Nat):Int)<=(57:Int))=decide (b.toNat<=57):=by rw [abE];simp only [decide_eq_true_eq];omega
 by_cases h:48<=b.toNat<;>simp [f47,Bq,a,c,h]
theorem WG (b:UInt8)(n fu:Nat)(m:Mem):l7 KW fu (n+1) (.func 51) [.int .u8 (b.toNat:Nat)] m=some [⟨.bool (su b),m⟩]:=by
 rw [enter (sf:=f51) rfl rfl];have a:decide ((97:Int)<=((b.toNat:Nat):Int))=decide (97<=b.toNat):=by rw [abE];simp only [decide_eq_true_eq];omega
 have c:decide (((b.toNat:Nat):Int)<=(122:Int))=decide (b.toNat<=122):=by rw [abE];simp only [decide_eq_true_eq];omega
 by_cases h:97<=b.toNat<;>simp [f51,su,a,c,h]
theorem adH (b:UInt8)(n fu:Nat)(m:Mem):l7 KW fu (n+1) (.func 52) [.int .u8 (b.toNat:Nat)] m=some [⟨.bool (Bq b),m⟩]:=by
 rw [enter (sf:=f52) rfl rfl];have a:decide ((48:Int)<=((b.toNat:Nat):Int))=decide (48<=b.toNat):=by rw [abE];simp only [decide_eq_true_eq];omega
 have c:decide (((b.toNat:Nat):Int)<=(57:Int))=decide (b.toNat<=57):=by rw [abE];simp only [decide_eq_true_eq];omega
 by_cases h:48<=b.toNat<;>simp [f52,Bq,a,c,h]
theorem Bt {m:Mem}(b:m.Ok)(l:List d9):bK (m.new (.cells 1 l.length (T.ofList (l.map ([·]))))) (.slice m.nx 0 l.length l.length) l:=
 .inr ⟨m.nx,0,.inl ⟨_,rfl,J2 _⟩,by simp,.inr ⟨l.length,T.ofList (l.map ([·])),by rw [Mem.K5 b,if_pos rfl],by simp,λi a=>by rw [aa2,T.bA];simp [a]⟩⟩
set_option maxHeartbeats 8000000
@[simp] theorem aoI:lG .nilIface .nilIface=some true:=_root_.id rfl
@[simp] theorem aoJ (t:TypeId)(v:d9):lG (.iface t v) .nilIface=some false:=_root_.id rfl
theorem qw {m:Mem}(a:m.Ok)(d:m.lim<=m.nx):(∀l:List Q6,(ext m l).get m.nx=l[0]?)∧(∀(l:List Q6) (c:Nat),(ext m l).get (m.nx+c)=l[c]?)∧
  (∀(β:Type) (l:List Q6) (c off:Nat) (vs:List d9) (k:Mem->Option β),storeAt (ext m l) (m.nx+c) off vs k=bi (K7 vs) (ob (vS l[c]? off vs) λb=>k (ext m (l.set c b))) none)∧
  (∀(β:Type) (l:List Q6) (off:Nat) (vs:List d9) (k:Mem->Option β),storeAt (ext m l) m.nx off vs k=bi (K7 vs) (ob (vS l[0]? off vs) λb=>k (ext m (l.set 0 b))) none)∧
  (∀(l:List Q6) (c:Nat) (b:Q6),c<l.length->(ext m l).set (m.nx+c) b=ext m (l.set c b))∧∀(l:List Q6) (b:Q6),0<l.length->(ext m l).set m.nx b=ext m (l.set 0 b):=
 ⟨u7 a,V9 a,λ_=>Bh a d,λ_=>uW a d,pV a,zI a⟩
def Brd (s:By)(pos nx:Nat):Prop:=nx<=s.length∧(nx=s.length∨(∀i (h:i<s.length),pos<=i->i<nx->(s[i]).toNat<128)∨∃h:nx<s.length,s[nx]=10)
theorem Brd.mono {s:By}{b a nx:Nat}(h:Brd s b nx)(hp:b<=a):Brd s a nx:=
 ⟨h.1,h.2.imp id (Or.imp (λh i d e c=>h i d (by omega) c) id)⟩
theorem Brd.step {s:By}{a nx:Nat}(h:Brd s a nx)(b:a<s.length)(hp:a<nx):a+(Utf8.decode ⟨s.toArray⟩ a).2<=nx:=by rcases Jb s a b with⟨h1,h2⟩ | ⟨h1,h2,h3,h4,h5,h6⟩;rw [h2];exact hp;rcases h.2 with h7 | h7 | ⟨h7,h8⟩;omega;have:=h7 a b (J2 _) hp;omega;refine adp λc=>?_;have:=h6 nx h7 (by omega) (by omega);rw [h8] at this;exact absurd this (by decide)
def abO (t:Tok):List d9:=[iV (t.1:Nat),.str t.2]
def vD (l:List Tok):List (List d9):=l.map abO
theorem WH {m:Mem}{s:By}{p a:Nat}(h:m.get p=some (.siter s a))(d:m.lim<=p)(hp:a<s.length)(it:OF)(cf:G9)(ls:List d9)(env:T d9)(c:it ls env=.ptr p 0):
  DK it cf ls env m=some [⟨.tuple [.bool true,iV (a:Nat),.int .i32 ((Utf8.decode ⟨s.toArray⟩ a).1:Nat)],m.set p (.siter s (a+(Utf8.decode ⟨s.toArray⟩ a).2))⟩]:=by
 show gN (it ls env) (λid b=>bi (Nat.beq b 0) (bi (Nat.blt id m.lim) none (Jv (m.get id) λs a=>bi (Nat.blt a (len' s)) _ _)) none)=_;rw [c,QU,show Nat.beq 0 0=true from rfl,T9,show Nat.blt p m.lim=false from aby.2 λe=>by have:=Y5.mp e;omega,R5,h];show bi (Nat.blt a (len' s)) _ _=_;rw [I9,show Nat.blt a s.length=true from Y5.mpr hp];rfl
theorem Jc {m:Mem}{s:By}{p:Nat}(h:m.get p=some (.siter s s.length))(d:m.lim<=p)(it:OF)(cf:G9)(ls:List d9)(env:T d9)(c:it ls env=.ptr p 0):
  DK it cf ls env m=some [⟨.tuple [.bool false],m⟩]:=by
 show gN (it ls env) (λid a=>bi (Nat.beq a 0) (bi (Nat.blt id m.lim) none (Jv (m.get id) λs b=>bi (Nat.blt b (len' s)) _ _)) none)=_;rw [c,QU,show Nat.beq 0 0=true from rfl,T9,show Nat.blt p m.lim=false from aby.2 λe=>by have:=Y5.mp e;omega,R5,h];show bi (Nat.blt s.length (len' s)) _ _=_;rw [I9,show Nat.blt s.length s.length=false from aby.2 λe=>by have:=Y5.mp e;omega];rfl
def Qc (s:By)(p:Nat)(acc:List Tok)(M:Mem)(r:Option (List Out))(l:Sum Nat (List Tok)):Prop:=
 (∃(ts:List Tok) (e3 e4 e5 e6 e7 e8 e9 e10 e11 out e13:d9) (M':Mem),l=.inr ts∧r=some [⟨.exit 0,(KH (.str s) ff (.ptr p 0) e3 e4 e5 e6 e7 e8 e9 e10 e11 out e13 nS (iV 0) (iV 0)),M',[],none⟩]∧Fr (p+1) p M M'∧iO (p+1) 2 M' out (vD (acc++ts))∧(acc++ts).length<=s.length)∨
 (∃(j:Nat) (e3 e4 e5 e6 e7 e8 e9 e10 e11 out e13:d9) (M':Mem),l=.inl j∧r=some [⟨.ret,(KH (.str s) ff (.ptr p 0) e3 e4 e5 e6 e7 e8 e9 e10 e11 out e13 nS (iV 7) (iV (j:Int))),M',[],none⟩]∧Fr (p+1) p M M')
theorem Qc.fr {s:By}{p:Nat}{a:List Tok}{M b:Mem}{r:Option (List Out)}{l:Sum Nat (List Tok)}(h:Qc s p a b r l)(c:Fr (p+1) p M b):Qc s p a M r l:=by rcases h with⟨ts,e3,e4,e5,e6,e7,e8,e9,e10,e11,out,e13,M',h1,h2,h3,h4⟩ | ⟨j,e3,e4,e5,e6,e7,e8,e9,e10,e11,out,e13,M',h1,h2,h3⟩;exact .inl ⟨ts,e3,e4,e5,e6,e7,e8,e9,e10,e11,out,e13,M',h1,h2,c.trans h3,h4⟩;exact .inr ⟨j,e3,e4,e5,e6,e7,e8,e9,e10,e11,out,e13,M',h1,h2,c.trans h3⟩
theorem ZJ {m:Mem}{v:d9}(l:List By)(o:l.length<=100000)(g:bK m v (strs l))(s:By)(cf:G9)(fu:Nat):∀(j i:Nat),i+j=l.length->∀(c x:d9) (N:Nat),j+1<=N->
  ∃i' c' x':d9,A9 (λenv m k=>IV cf fu none env m k) N (GR (iV (i:Int)) v c (.str s) x ff) m [] =
   bi ((l.drop i).any λt=>decide (s=t)) (some [⟨.ret,(GR i' v c' (.str s) x' tt),m,[],none⟩]) (some [⟨.exit 0,(GR i' v c' (.str s) x' ff),m,[],none⟩]):=by
 intro j;induction j with
 | zero=>
  intro i u c x N r;obtain⟨N,rfl⟩:∃k,N=k+1:=⟨N-1,by omega⟩;obtain rfl:i=l.length:=by omega
  have d:=g.len;rw [bL] at d;refine⟨iV (l.length:Int),.bool false,x,?_⟩;rw [l8,abz (J2 _)];simp [IV,d]
 | succ j ih=>
  intro i u c x N r;obtain⟨N,rfl⟩:∃k,N=k+1:=⟨N-1,by omega⟩;have a:i<l.length:=by omega
  have d:=g.len;rw [bL] at d;obtain⟨id,w,h,y,f⟩:=g.at (i:=i) (by rw [bL];omega);have p:(strs l)[i]'(by rw [bL];exact a)=.str l[i]:=ag5 ..;rw [p] at f;have n:l.drop i=l[i]::l.drop (i+1):=Xl a;by_cases ht:s=l[i];refine⟨iV (i:Int),.bool true,.bool true,?_⟩;have b:decide (l[i]=s)=true:=decide_eq_true ht.symm;rw [l8,n,List.any_cons,decide_eq_true ht,Bool.true_or];simp [IV,d,a,h,f,b];have b:decide (l[i]=s)=false:=decide_eq_false λe=>ht e.symm;obtain⟨i',c',x',q⟩:=ih (i+1) (by omega) tt ff N (by omega);refine⟨i',c',x',?_⟩;rw [l8,n,List.any_cons,decide_eq_false ht,ahm,← q];simp [IV,d,a,h,f,b,J7 (i:=i) (by omega)]
theorem Qd {m:Mem}{v:d9}(l:List By)(c:l.length<=1000)(e:bK m v (strs l))(s:By)(n fu:Nat)(d:1001<=fu):l7 KW fu (n+1) (.func 54) [v,.str s] m=some [⟨.bool (l.any λt=>decide (s=t)),m⟩]:=by obtain⟨i,f,j,g⟩:=ZJ (m:=m) l (by omega) e s (l7 KW fu n) fu l.length 0 (by omega) .undef .undef fu (by omega);have b:A9 (λa m k=>IV (l7 KW fu n) fu none a m k) fu (GR (iV 0) v .undef (.str s) .undef ff) m []=_:=g;rw [q9] at b;rw [enter (sf:=f54) rfl rfl];cases h:l.any λt=>decide (s=t)<;>rw [h] at b<;>simp [f54,b]
def KL (s:By)(p:Nat)(acc:List Tok)(M:Mem)(r:Option (List Out))(l:Sum Nat (List Tok)):Prop:=
 (∃(ts:List Tok) (e3 e4 e5 e6 e7 e8 e9 out e11:d9) (M':Mem),l=.inr ts∧r=some [⟨.exit 0,(adD (.str s) ff (.ptr p 0) e3 e4 e5 e6 e7 e8 e9 out e11),M',[],none⟩]∧Fr (p+1) p M M'∧M'.get p=some (o8 [nS,iV 0,iV 0])∧iO (p+1) 2 M' out (vD (acc++ts))∧(acc++ts).length<=s.length)∨
 (∃(j:Nat) (e3 e4 e5 e6 e7 e8 e9 out e11:d9) (M':Mem),l=.inl j∧r=some [⟨.ret,(adD (.str s) ff (.ptr p 0) e3 e4 e5 e6 e7 e8 e9 out e11),M',[],none⟩]∧Fr (p+1) p M M'∧M'.get p=some (o8 [nS,iV 7,iV (j:Int)]))
theorem KL.fr {s:By}{p:Nat}{a:List Tok}{M b:Mem}{r:Option (List Out)}{l:Sum Nat (List Tok)}(h:KL s p a b r l)(c:Fr (p+1) p M b):KL s p a M r l:=by rcases h with⟨ts,e3,e4,e5,e6,e7,e8,e9,out,e11,M',h1,h2,h3,h4⟩ | ⟨j,e3,e4,e5,e6,e7,e8,e9,out,e11,M',h1,h2,h3,h4⟩;exact .inl ⟨ts,e3,e4,e5,e6,e7,e8,e9,out,e11,M',h1,h2,c.trans h3,h4⟩;exact .inr ⟨j,e3,e4,e5,e6,e7,e8,e9,out,e11,M',h1,h2,c.trans h3,h4⟩
@[simp] theorem aiv (k:IntKind)(n:Int):r9 (.int k n)=true:=_root_.id rfl
@[simp] theorem aiw (s:By):r9 (.str s)=true:=_root_.id rfl
@[simp] theorem afT (b:Bool):r9 (.bool b)=true:=_root_.id rfl
def KM (m m':Mem)(s:By)(v:d9)(e a:Int):Prop:=match ait 0 s with
 | .inr ts=>iO m.nx 2 m' v (vD ts)∧ts.length<=s.length∧e=0∧a=-1
 | .inl j=>v=nS∧e=7∧a=(j:Int)
@[simp] theorem aoK:Gj .s=eqStr:=_root_.id rfl
theorem KM.same {m m1 l g:Mem}{s:By}{i k:d9}{e c f d:Int}(a:KM m m1 s i e c)(b:KM l g s k f d):e=f∧c=d∧∃ts:List Tok,ts.length<=s.length∧gK m1 2 i (vD ts)∧gK g 2 k (vD ts):=by
 unfold KM at a b;cases h:ait 0 s with
 | inr ts=>rw [h] at a b;obtain⟨n,o,rfl,rfl⟩:=a;obtain⟨p,q,rfl,rfl⟩:=b;exact⟨rfl,rfl,ts,o,n.slice,p.slice⟩
 | inl j=>rw [h] at a b;obtain⟨rfl,rfl,rfl⟩:=a;obtain⟨rfl,rfl,rfl⟩:=b;exact⟨rfl,rfl,[],by simp,.inl ⟨rfl,rfl⟩,.inl ⟨rfl,rfl⟩⟩
mutual
def oJ:Ex->Nat
 | .mk _ _ _ a=>1+S9 a
def S9:List Ex->Nat
 | []=>0
 | e::l=>oJ e+S9 l
end
mutual
def qx:Ex->Nat
 | .mk _ _ _ a=>1+ah a
def ah:List Ex->Nat
 | []=>0
 | e::l=>max (qx e) (ah l)
end
mutual
def stP:aR->Nat
 | .mk _ _ e t f=>1+S9 e+V8 t+V8 f
def V8:List aR->Nat
 | []=>0
 | s::l=>stP s+V8 l
end
mutual
def vE:aR->Nat
 | .mk _ _ e t f=>1+max (ah e) (max (aZ t) (aZ f))
def aZ:List aR->Nat
 | []=>0
 | s::l=>max (vE s) (aZ l)
end
def lF (l:List aR):Int×Int:=if V8 l<=500∧aZ l<=20 then (V8 l,aZ l) else (-1,-1)
def comb (a b:Nat×Nat):Nat×Nat:=(a.1+b.1,max a.2 b.2)
def gF (s:Nat×Nat)(l:List (Nat×Nat)):Nat×Nat:=l.foldl comb s
mutual
def bE:Nat->Ex->Nat×Nat
 | d,.mk _ _ _ a=>gF (1,1) (zU d a)
def zU:Nat->List Ex->List (Nat×Nat)
 | _,[]=>[]
 | 0,_ :: _=>[(0,21)]
 | d+1,e::l=>((bE d e).1,(bE d e).2+1)::zU (d+1) l
end
mutual
def ZK:Nat->aR->Nat×Nat
 | d,.mk _ _ e t f=>comb (comb (gF (1,1) (zU (d-1) e)) ((bS (d-1) t).1,(bS (d-1) t).2+1)) ((bS (d-1) f).1,(bS (d-1) f).2+1)
def bS:Nat->List aR->Nat×Nat
 | _,[]=>(0,0)
 | 0,_ :: _=>(0,21)
 | d+1,s::l=>comb (ZK (d+1) s) (bS (d+1) l)
end
theorem Jd:∀(l:List (Nat×Nat)) (s:Nat×Nat),(gF s l).1=s.1+(l.map (·.1)).sum∧s.2<=(gF s l).2∧(∀x∈l,x.2<=(gF s l).2)∧∀B,s.2<=B->(∀x∈l,x.2<=B)->(gF s l).2<=B
 | [],s=>⟨by simp [gF],J2 _,by simp,λB h _=>h⟩
 | x::l,s=>by
  obtain⟨h1,h2,h3,h4⟩:=Jd l (comb s x);have e:gF s (x::l)=gF (comb s x) l:=rfl;rw [e];refine⟨?_,?_,?_,?_⟩;rw [h1];simp [comb];omega;have:s.2<=(comb s x).2:=by simp [comb];omega
  omega;intro y hy;rcases Z9.1 hy with rfl | hy;have:y.2<=(comb s y).2:=by simp [comb];omega
  omega;exact h3 y hy;intro B hs hB;refine h4 B ?_ λy hy=>hB y (by simp [hy]);have:=hB x (by simp);simp [comb];omega
structure WOk (d:Nat)(a:List Ex)(w:List (Nat×Nat)):Prop where
 ex:ah a<=d->(w.map (·.1)).sum=S9 a∧(∀x∈w,x.2<=ah a+1)∧(a≠[]->∃x∈w,x.2=ah a+1)
 big:d<ah a->∃x∈w,21<=x.2
 le:(w.map (·.1)).sum<=S9 a
 lv:∀x∈w,x.2<=21+d
 len:w.length<=a.length
theorem zV {d:Nat}{a:List Ex}{w:List (Nat×Nat)}(h:WOk d a w):(ah a<=d->gF (1,1) w=(1+S9 a,1+ah a))∧(d<ah a->21<=(gF (1,1) w).2)∧(gF (1,1) w).1<=1+S9 a∧(gF (1,1) w).2<=21+d:=by
 obtain⟨f,p,g,i⟩:=Jd w (1,1);refine⟨λb=>?_,λb=>?_,?_,?_⟩;obtain⟨j,k,l⟩:=h.ex b;have m:(gF (1,1) w).2=1+ah a:=by by_cases ha:a=[];subst ha;have:w=[]:=aa5.1 (Nat.le_zero.1 (by simpa using h.len));subst this;rfl;obtain⟨x,c,e⟩:=l ha;have n:=g x c;have o:=i (ah a+1) (by simp) k;omega
 rw [adt];exact⟨by rw [f,j],m⟩;obtain⟨x,c,e⟩:=h.big b;have:=g x c;omega;rw [f];have:=h.le;simp;omega
 exact i _ (by simp;omega) h.lv
mutual
theorem WI:∀(e:Ex) (d:Nat),(qx e<=d+1->bE d e=(oJ e,qx e))∧(d+1<qx e->21<=(bE d e).2)∧(bE d e).1<=oJ e∧(bE d e).2<=21+d
 | .mk k n s a,d=>by have h:=zV (vF a d);rw [bE,qx,oJ];exact⟨λhd=>h.1 (by omega),λhd=>h.2.1 (by omega),h.2.2.1,h.2.2.2⟩
theorem vF:∀(a:List Ex) (d:Nat),WOk d a (zU d a)
 | [],d=>⟨λ_=>⟨rfl,by simp [zU],λh=>absurd rfl h⟩,λh=>by simp [ah] at h,by simp [zU,S9],by simp [zU],by simp [zU]⟩
 | e::l,0=>by
  have he:1<=qx e:=by cases e;simp [qx]
  refine⟨λh=>?_,λ_=>⟨(0,21),by simp [zU],by simp⟩,by simp [zU],by simp [zU],by simp [zU]⟩;rw [ah] at h;omega
 | e::l,d+1=>by
  obtain⟨h1,h2,h3,h4⟩:=WI e d;have H:=vF l (d+1);refine⟨λh=>?_,λh=>?_,?_,?_,?_⟩;rw [ah] at h;obtain⟨a1,a2,a3⟩:=H.ex (by omega);have e1:=h1 (by omega);rw [zU,ah,S9,e1];refine⟨by simp [a1],λx hx=>?_,λ_=>?_⟩;rcases Z9.1 hx with rfl | hx;simp;omega;have:=a2 x hx;omega;by_cases hc:ah l<=qx e;exact⟨(oJ e,qx e+1),by simp,by simp;omega⟩;have hl:l≠[]:=by rintro rfl;simp [ah] at hc
  obtain⟨x,hx,hx2⟩:=a3 hl;exact⟨x,by simp [hx],by omega⟩;rw [ah] at h;rw [zU];by_cases hc:d+1<qx e;have:=h2 hc;exact⟨((bE d e).1,(bE d e).2+1),by simp,by simp;omega⟩;obtain⟨x,hx,hx2⟩:=H.big (by omega);exact⟨x,by simp [hx],hx2⟩;rw [zU,S9];have:=H.le;simp;omega
  rw [zU];intro x hx;rcases Z9.1 hx with rfl | hx;simp;omega;exact H.lv x hx;rw [zU];have:=H.len;simpa using this
end
mutual
theorem adI:∀(s:aR) (d:Nat),(vE s<=d+1->ZK (d+1) s=(stP s,vE s))∧(d+1<vE s->21<=(ZK (d+1) s).2)∧(ZK (d+1) s).1<=stP s∧(ZK (d+1) s).2<=22+d
 | .mk k n e t f,d=>by obtain⟨e1,e2,e3,e4⟩:=zV (vF e d);obtain⟨t1,t2,t3,t4⟩:=Je t d;obtain⟨f1,f2,f3,f4⟩:=Je f d;rw [ZK,vE,stP];simp only [ahk];refine⟨λh=>?_,λh=>?_,?_,?_⟩;rw [e1 (by omega),t1 (by omega),f1 (by omega)];simp only [comb];rw [adt];exact⟨rfl,by simp only;omega⟩;simp only [comb];by_cases hc:d<ah e;have:=e2 hc;omega;by_cases hc2:d<aZ t;have:=t2 hc2;omega;have:=f2 (by omega);omega;simp only [comb];omega;simp only [comb];omega
theorem Je:∀(l:List aR) (d:Nat),(aZ l<=d->bS d l=(V8 l,aZ l))∧(d<aZ l->21<=(bS d l).2)∧(bS d l).1<=V8 l∧(bS d l).2<=21+d
 | [],d=>⟨λ_=>by simp [bS,V8,aZ],λh=>by simp [aZ] at h,by simp [bS],by simp [bS]⟩
 | s::l,0=>by
  have hs:1<=vE s:=by cases s;simp [vE]
  refine⟨λh=>?_,λ_=>by simp [bS],by simp [bS],by simp [bS]⟩;rw [aZ] at h;omega
 | s::l,d+1=>by obtain⟨s1,s2,s3,s4⟩:=adI s d;obtain⟨l1,l2,l3,l4⟩:=Je l (d+1);rw [bS,aZ,V8];simp only [comb];refine⟨λh=>?_,λh=>?_,?_,?_⟩;rw [s1 (by omega),l1 (by omega)];by_cases hc:d+1<vE s;have:=s2 hc;omega;have:=l2 (by omega);omega;omega;omega
end
theorem WJ (l:List aR):(if 500<(bS 22 l).1∨20<(bS 22 l).2 then ((-1,-1):Int×Int) else (((bS 22 l).1:Int),((bS 22 l).2:Int)))=lF l:=by obtain⟨a,b,c,d⟩:=Je l 22;unfold lF;by_cases h:aZ l<=22;rw [a h];by_cases h5:V8 l<=500∧aZ l<=20;rw [if_neg (by simp only;omega),if_pos h5];rw [if_pos (by simp only;omega),if_neg h5];rw [if_pos (.inr (by have:=b (by omega);omega)),if_neg (by omega)]
mutual
def rE:Nat->Ex->Nat×Nat
 | d,.mk _ _ _ a=>pX d a (1,1)
def pX:Nat->List Ex->Nat×Nat->Nat×Nat
 | _,[],o=>o
 | d,e::l,o=>if 500<o.1 then o else if 20<d then (501,21) else pX d l (o.1+(rE (d+1) e).1,max o.2 ((rE (d+1) e).2+1))
end
def OD:Nat->List Ex->Nat×Nat->Nat×Nat
 | _,[],o=>o
 | d,e::l,o=>if 500<o.1 then o else OD d l (o.1+(rE (d+1) e).1,max o.2 ((rE (d+1) e).2+1))
mutual
def Qe:Nat->aR->Nat×Nat
 | d,.mk _ _ e t f=>if 20<d then (501,21) else
  ((OD d e (1,1)).1+(yw (d+1) t (0,0)).1+(yw (d+1) f (0,0)).1,max (OD d e (1,1)).2 (max ((yw (d+1) t (0,0)).2+1) ((yw (d+1) f (0,0)).2+1)))
def yw:Nat->List aR->Nat×Nat->Nat×Nat
 | _,[],o=>o
 | d,s::l,o=>if 500<o.1 then o else yw d l (o.1+(Qe d s).1,max o.2 (Qe d s).2)
end
mutual
theorem Rn:∀(e:Ex) (d:Nat),d<=21->(qx e+d<=22∧oJ e<=500->rE d e=(oJ e,qx e))∧(¬ (qx e+d<=22∧oJ e<=500)->501<=(rE d e).1)∧(rE d e).1<=501+500*(21-d)∧(rE d e).2<=21+(21-d)
 | .mk k n s a,d,hd=>by obtain⟨h1,h2,h3,h4⟩:=NY a d 1 1 hd (by omega) (by omega);rw [rE,qx,oJ];refine⟨λh=>?_,λh=>h2 (by omega),h3 (by omega),h4⟩;rw [h1 (by omega),adt];exact⟨rfl,by simp only;omega⟩
theorem NY:∀(a:List Ex) (d p l:Nat),d<=21->1<=l->l<=21+(21-d)->(ah a+d<=21∧p+S9 a<=500->pX d a (p,l)=(p+S9 a,max l (ah a+1)))∧(¬ (ah a+d<=21∧p+S9 a<=500)->501<=(pX d a (p,l)).1)∧
  (p<=501+500*(21-d)->(pX d a (p,l)).1<=501+500*(21-d))∧(pX d a (p,l)).2<=21+(21-d)
 | [],d,p,l,hd,hl,hl2=>by rw [pX,ah,S9];refine⟨λh=>?_,λh=>by simp only;omega,λh=>h,hl2⟩;rw [adt];exact⟨rfl,by simp only;omega⟩
 | e::a,d,p,l,hd,hl,hl2=>by
  have he:1<=qx e∧1<=oJ e:=by cases e;simp [qx,oJ]
  rw [pX];by_cases hp:500<p;rw [if_pos hp];exact⟨λh=>by omega,λ_=>by simp only;omega,λh=>h,hl2⟩;rw [if_neg hp];by_cases h20:20<d;rw [if_pos h20,ah];exact⟨λh=>by omega,λ_=>by simp,λ_=>by simp only;omega,by simp only;omega⟩;rw [if_neg h20];obtain⟨e1,e2,e3,e4⟩:=Rn e (d+1) (by omega);have hl3:max l ((rE (d+1) e).2+1)<=21+(21-d):=by omega
  obtain⟨a1,a2,a3,a4⟩:=NY a d (p+(rE (d+1) e).1) (max l ((rE (d+1) e).2+1)) hd (by omega) hl3;rw [ah,S9];refine⟨λh=>?_,λh=>?_,λh=>a3 (by omega),a4⟩;have x:=e1 (by omega);rw [x] at a1 ⊢;rw [a1 (by simp only;omega),adt];exact⟨by simp only;omega,by simp only;omega⟩;by_cases hc:qx e+(d+1)<=22∧oJ e<=500;have x:=e1 hc;rw [x] at a2 ⊢;exact a2 (by simp only;omega);have x:=e2 hc;refine a2 ?_;omega
end
theorem Qf:∀(a:List Ex) (d p l:Nat),d<=20->1<=l->l<=21+(21-d)->(ah a+d<=21∧p+S9 a<=500->OD d a (p,l)=(p+S9 a,max l (ah a+1)))∧(¬ (ah a+d<=21∧p+S9 a<=500)->501<=(OD d a (p,l)).1)∧
  (p<=501+500*(21-d)->(OD d a (p,l)).1<=501+500*(21-d))∧(OD d a (p,l)).2<=21+(21-d)∧1<=(OD d a (p,l)).2
 | [],d,p,l,hd,hl,hl2=>by rw [OD,ah,S9];refine⟨λh=>?_,λh=>by simp only;omega,λh=>h,hl2,hl⟩;rw [adt];exact⟨rfl,by simp only;omega⟩
 | e::a,d,p,l,hd,hl,hl2=>by rw [OD];by_cases hp:500<p;rw [if_pos hp];exact⟨λh=>by omega,λ_=>by simp only;omega,λh=>h,hl2,hl⟩;rw [if_neg hp];obtain⟨e1,e2,e3,e4⟩:=Rn e (d+1) (by omega);obtain⟨a1,a2,a3,a4,a5⟩:=Qf a d (p+(rE (d+1) e).1) (max l ((rE (d+1) e).2+1)) hd (by omega) (by omega);rw [ah,S9];refine⟨λh=>?_,λh=>?_,λh=>a3 (by omega),a4,a5⟩;have x:=e1 (by omega);rw [x] at a1 ⊢;rw [a1 (by simp only;omega),adt];exact⟨by simp only;omega,by simp only;omega⟩;by_cases hc:qx e+(d+1)<=22∧oJ e<=500;have x:=e1 hc;rw [x] at a2 ⊢;exact a2 (by simp only;omega);have x:=e2 hc;exact a2 (by omega)
mutual
theorem WK:∀(s:aR) (d:Nat),1<=d->d<=21->(vE s+d<=21∧stP s<=500->Qe d s=(stP s,vE s))∧(¬ (vE s+d<=21∧stP s<=500)->501<=(Qe d s).1∨22<=(Qe d s).2+d)∧(Qe d s).1<=20000*3^(21-d)∧(Qe d s).2+d<=64
 | .mk k n e t f,d,hd1,hd=>by
  rw [Qe];by_cases h20:20<d;rw [if_pos h20,vE];refine⟨λh=>by omega,λ_=>by simp,?_,by simp only;omega⟩;have:=Nat.one_le_pow (21-d) 3 (by omega);simp only;omega;rw [if_neg h20];obtain⟨e1,e2,e3,e4,e5⟩:=Qf e d 1 1 (by omega) (by omega) (by omega);obtain⟨t1,t2,t3,t4⟩:=yx t (d+1) 0 0 (by omega) (by omega) (by omega);obtain⟨f1,f2,f3,f4⟩:=yx f (d+1) 0 0 (by omega) (by omega) (by omega);rw [vE,stP];refine⟨λh=>?_,λh=>?_,?_,?_⟩;rw [e1 (by omega),t1 (by omega),f1 (by omega),adt];exact⟨by simp only;omega,by simp only;omega⟩;by_cases hc:ah e+d<=21∧1+S9 e<=500;by_cases hc2:aZ t+(d+1)<=21∧0+V8 t<=500;by_cases hc3:aZ f+(d+1)<=21∧0+V8 f<=500;rw [e1 hc,t1 hc2,f1 hc3];simp only;omega;have:=f2 hc3;simp only;omega;have:=t2 hc2;simp only;omega;have:=e2 hc;simp only;omega;have a1:=e3 (by omega);have a2:=t3 (by omega);have a3:=f3 (by omega);have hp:3^(21-d)=3*3^(21-(d+1)):=by rw [show 21-d=(21-(d+1))+1 from by omega,afM];omega
  have:=Nat.one_le_pow (21-(d+1)) 3 (by omega);simp only;omega;simp only;omega
theorem yx:∀(l:List aR) (d p v:Nat),1<=d->d<=21->v+d<=64->(aZ l+d<=21∧p+V8 l<=500->yw d l (p,v)=(p+V8 l,max v (aZ l)))∧(¬ (aZ l+d<=21∧p+V8 l<=500)->501<=(yw d l (p,v)).1∨22<=(yw d l (p,v)).2+d)∧
  (p<=500+20000*3^(21-d)->(yw d l (p,v)).1<=500+20000*3^(21-d))∧(yw d l (p,v)).2+d<=64∧p<=(yw d l (p,v)).1∧v<=(yw d l (p,v)).2
 | [],d,p,v,hd1,hd,hv=>by rw [yw,aZ,V8];refine⟨λh=>?_,λh=>by simp only;omega,λh=>h,hv,J2 _,J2 _⟩;rw [adt];exact⟨rfl,by simp only;omega⟩
 | s::l,d,p,v,hd1,hd,hv=>by
  have hs:1<=vE s∧1<=stP s:=by cases s;simp [vE,stP];omega
  rw [yw];by_cases hp:500<p;rw [if_pos hp];exact⟨λh=>by omega,λ_=>by simp only;omega,λh=>h,hv,J2 _,J2 _⟩;rw [if_neg hp];dsimp only at hp ⊢;obtain⟨s1,s2,s3,s4⟩:=WK s d hd1 hd;obtain⟨l1,l2,l3,l4,l5,l6⟩:=yx l d (p+(Qe d s).1) (max v (Qe d s).2) hd1 hd (by omega);rw [aZ,V8];refine⟨λh=>?_,λh=>?_,λh=>l3 (by omega),l4,by omega,by omega⟩;have x:=s1 (by omega);rw [x] at l1 ⊢;rw [l1 (by simp only;omega),adt];exact⟨by simp only;omega,by simp only;omega⟩;by_cases hc:vE s+d<=21∧stP s<=500;have x:=s1 hc;rw [x] at l2 ⊢;exact l2 (by simp only;omega);have x:=s2 hc;rcases x with x | x;exact .inl (by omega);exact .inr (by omega)
end
theorem TJ (l:List aR):(if 500<(yw 1 l (0,0)).1∨20<(yw 1 l (0,0)).2 then ((-1,-1):Int×Int) else (((yw 1 l (0,0)).1:Int),((yw 1 l (0,0)).2:Int)))=lF l:=by obtain⟨a,b,c,d,e,f⟩:=yx l 1 0 0 (by omega) (by omega) (by omega);unfold lF;by_cases h:aZ l+1<=21∧0+V8 l<=500;rw [a h,if_neg (by simp only;omega),if_pos (by omega)];simp;rw [if_pos (by have:=b h;omega),if_neg (by omega)]
def C8 (x:Nat×Nat):List d9:=[iV (x.1:Int),iV (x.2:Int)]
def iP (l:List (Nat×Nat)):List (List d9):=l.map C8
theorem yA (l:List (Nat×Nat)):(iP l).length=l.length:=by simp [iP]
def Small (l:List (Nat×Nat)):Prop:=l.length<=100000∧∀x∈l,x.1<=10000000000000∧x.2<=1000000
theorem zX {β:Type}{m:Mem}(d:m.Ok){p:Nat}(hp:p<m.nx)(c:m.lim<=p)(l:List Q6)(off:Nat)(a:List d9)(k:Mem->Option β):storeAt (ext m l) p off a k=bi (K7 a) (ob (vS (m.get p) off a) λb=>k ((ext m l).set p b)) none:=by rw [rX (by rw [QW];exact c),U6 d l hp]
structure At (p:Nat)(m M:Mem):Prop where
 lt:p<m.nx
 limp:m.lim<=p
 fr:Fr m.nx p m M
section
variable {p:Nat}{m M M':Mem}
theorem At.ok (h:At p m M):M.Ok:=h.fr.ok
theorem At.Dp (h:At p m M):p<M.nx:=gI h.lt h.fr.nx
theorem At.lim (h:At p m M):M.lim<=p:=by rw [h.fr.lim];exact h.limp
theorem At.zY (h:At p m M):M.lim<=M.nx:=aA h.lim (afC h.Dp)
theorem At.start (b:m.Ok)(hp:p<m.nx)(a:m.lim<=p):At p m m:=⟨hp,a,Fr.refl b⟩
theorem At.nx (h:At p m M)(e:Ext M M'):At p m M':=⟨h.lt,h.limp,h.fr.trans (e.fr h.fr.nx)⟩
theorem At.set (h:At p m M)(b:Q6):At p m (M.set p b):=
 ⟨h.lt,h.limp,h.fr.trans ⟨Mem.Ok.set h.ok h.Dp _,by simp,by simp,λi c a=>V7 h.ok _ h.Dp a⟩⟩
theorem At.ext {a:Mem}(h:At p m M)(e:Ext a m)(hp:a.nx<=p):Ext a M:=⟨h.ok,aA e.nx h.fr.nx,h.fr.lim.trans e.lim,λi b=>(h.fr.old i (gI b e.nx) (by omega)).trans (e.old i b)⟩
end
theorem Qh (a b:Nat):((max a b:Nat):Int)=max (a:Int) b:=by omega
theorem Dq {x y:OF}{ls:List d9}{env:T d9}{a b:Int}(c:x ls env=.int .i64 a)(d:y ls env=.int .i64 b):pMm true x [y] ls env=some (iV (max a b)):=by show ob (mm2 true (x ls env) (y ls env)) some=_;rw [c,d];show some (d9.int .i64 (bi (mM a b) b a))=_;rw [iT];by_cases h:a<b;rw [decide_eq_true h,T9,Int.max_def,if_pos (by omega)];rw [decide_eq_false h,R5,Int.max_def];split<;>first | rfl | (congr 2;omega)
theorem ZL {m:Mem}{p:Nat}{v:d9}{a0 b0:Int}{cf:G9}{fu:Nat}(l:List (Nat×Nat))(hs:Small l)(V:∀M,At p m M->gK M 2 v (iP l))(U:qU v (some (d9.int .i64 0)) (λ_ _ n _=>some (iV n)) (λ_ _ n _=>some (iV n))=some (.int .i64 l.length)):
  ∀(j i:Nat),i+j=l.length->∀(s:Nat×Nat) (c x:d9) (M:Mem) (N:Nat),At p m M->M.get p=some (o8 (C8 s))->s.1<=20000000000000*(i+1)->s.2<=1000000->j+1<=N->
  ∃c' x' M',A9 (λenv m k=>NR cf fu none env m k) N (Ya (.agg [iV a0,iV b0]) v (iV (i:Int)) (iV (l.length:Int)) c v (.ptr p 0) x (.ptr (p+1) 0)) M []=some [⟨.exit 0,(Ya (.agg [iV a0,iV b0]) v (iV (l.length:Int)) (iV (l.length:Int)) c' v (.ptr p 0) x' (.ptr (p+1) 0)),M',[],none⟩]∧At p m M'∧M'.get p=some (o8 (C8 (gF s (l.drop i)))):=by
 have E:=U;have T:=hs.1;intro j;induction j with
 | zero=>
  intro i R s c x M N d w r t P;obtain⟨N,rfl⟩:∃k,N=k+1:=⟨N-1,by omega⟩;obtain rfl:i=l.length:=by omega
  refine⟨.bool false,x,M,?_,d,?_⟩;rw [l8];simp [NR];rw [abx];exact w
 | succ j ih=>
  intro i R s c x M N d w r t P;obtain⟨N,rfl⟩:∃k,N=k+1:=⟨N-1,by omega⟩;have e:i<l.length:=by omega
  have h:i<(iP l).length:=by rw [yA];exact e
  have g:=d.ok;have S:=d.zY;have F:=d.Dp;have B:=d.lim;obtain⟨Y,o1,H,a2,a3,I,a5⟩:=(V M d).at h;have o:(iP l)[i]=C8 l[i]:=by simp [iP]
  have f:=I 0 2 (by omega) (by omega);rw [o] at f;have C:=hs.2 l[i] (ac8 e);have Q:l.drop i=l[i]::l.drop (i+1):=Xl e;generalize hX:l[i]=X at *;obtain⟨u,D⟩:=X;obtain⟨z,G⟩:=s;simp only [Y3,C8,q9,ae3,List.take_zero] at f w C r t;have Z:=λ(β:Type) (l:List Q6) (off:Nat) (vs:List d9) (k:Mem->Option β)=>zX (β:=β) g F B l off vs k;have O:=λ(l:List Q6)=>U6 g l F;have A:=(d.nx (H7 g [o8 [iV (u:Int),iV (D:Int)]])).set (o8 (C8 (comb (z,G) (u,D))));obtain⟨c',x',M',L,J,K⟩:=ih (i+1) (by omega) (comb (z,G) (u,D)) tt (.ptr M.nx 0) _ N A (G8 (d.nx (H7 g _)).ok _ (d.nx (H7 g _)).Dp rfl) (by simp [comb];omega) (by simp [comb];omega) (by omega);have q:=λx y ls env a b C W=>Dq (x:=x) (y:=y) (ls:=ls) (env:=env) (a:=a) (b:=b) C W;have w1:jA ((z:Int)+(u:Int))=((z+u:Nat):Int):=by rw [M0 (by omega) (by omega)];rfl
  refine⟨c',x',M',?_,J,?_⟩;rw [l8,← L];simp [NR,P5 g S,Z,O,w,H,f,e,C8,comb,J7 (i:=i) (by omega),q,w1,Qh];rw [Q];exact K
theorem KO {m:Mem}(c:m.Ok)(p:m.lim<=m.nx){v:d9}(s:Nat×Nat)(l:List (Nat×Nat))(hs:Small l)(q:gK m 2 v (iP l))(A:s.1<=20000000000000)(w:s.2<=1000000)(n fu:Nat)(e:l.length+1<=fu):
  ∃m',l7 KW fu (n+1) (.func 75) [.agg (C8 s),v] m=some [⟨.agg (C8 (gF s l)),m'⟩]∧Ext m m':=by
 have j:=q.len;rw [yA] at j;have E:=H7 c [o8 (C8 s),o8 [iV 0,iV 0]];have x:At m.nx (ext m [o8 (C8 s),o8 [iV 0,iV 0]]) _:=At.start E.ok (by simp) (by rw [E.lim];exact p);obtain⟨z,H,M',g,a,o⟩:=ZL (cf:=l7 KW fu n) (fu:=fu) (a0:=(s.1:Int)) (b0:=(s.2:Int)) l hs (λM h=>q.ext (h.ext E (J2 _))) j l.length 0 (by omega) s .undef .undef (_) fu x (by rw [u7 c];rfl) (by omega) w e;have t:A9 (λd m k=>NR (l7 KW fu n) fu none d m k) fu (Ya (.agg [iV (s.1:Int),iV (s.2:Int)]) v (iV 0) (iV (l.length:Int)) .undef v (.ptr m.nx 0) .undef (.ptr (m.nx+1) 0)) (ext m [o8 (C8 s),o8 [iV 0,iV 0]]) []=_:=g;have f:M'.get (m.nx+1)=some (o8 [iV 0,iV 0]):=by rw [a.fr.old _ (by simp) (by omega),V9 c];rfl
 have b:m.nx+1<M'.nx:=gI (by simp) a.fr.nx;have i:M'.lim<=m.nx+1:=by have:=a.lim;omega
 have y:=sB i;have u:∀B,(M'.set (m.nx+1) B).get (m.nx+1)=some B:=λB=>G8 a.ok _ b rfl;have EM:=a.ext E (J2 _);refine⟨M'.set (m.nx+1) (o8 (C8 (gF s l))),?_,?_⟩;rw [q9] at o;rw [enter (sf:=f75) rfl rfl];generalize gF s l=r at *;obtain⟨C,D⟩:=r;obtain⟨F,G⟩:=s;simp only [C8] at *;simp [f75,P5 c p,r9,j,t,o,f,y,u];exact EM.set b (by omega) _
theorem bs2 (z:List d9)(ps:List (Nat×Nat×OF))(ls:List d9)(env:T d9)(a:Nat)(h:z.length=2):H9 2 1 z ps ls env a=ob (lay ps ls env z) λcells=>if cells.length=2 then some (.slice a 0 1 1,some (o8 cells)) else none:=uX 2 z ps ls env a h
theorem iZ.ext {m m':Mem}{S:Nat->Prop}{a:List Ex}{v:d9}(h:iZ m S a v)(e:Ext m m'):iZ m' S a v:=by obtain⟨b,d,f⟩:=h;exact⟨b,d.mono e.nx (λi c _=>e.old i c) λ_ _ h=>h,H6.mono e.nx (λi c _=>e.old i c) (λ_ _ h=>h) a b f⟩
theorem Rp:∀(l:List (Nat×Nat)) (x:Nat×Nat),x∈l->x.1<=(l.map (·.1)).sum
 | y::l,x,h=>by simp only [Z7,aeG];rcases Z9.1 h with rfl | h;omega;have:=Rp l x h;omega
theorem O0:∀l:List Ex,l.length<=S9 l
 | []=>by simp
 | e::l=>by have:=O0 l;have:1<=oJ e:=by {cases e;simp [oJ]};simp [S9];omega
theorem dN:∀(l:List Ex) (i:Nat) (h:i<l.length),oJ l[i]<=S9 l
 | e::l,0,h=>by simp [S9]
 | e::l,i+1,h=>by have:=dN l i (by simpa using h);simp [S9];omega
theorem Oa (d:Nat)(a:List Ex)(c:d<=100)(h:S9 a<=10000):Small (zU d a):=by
 have w:=vF a d;refine⟨by have:=w.len;have:=O0 a;omega,λx b=>⟨?_,?_⟩⟩;have:=Rp _ x b;have:=w.le;omega
 have:=w.lv x b;omega
def C76 (K:Known)(n fu d:Nat):Prop:=∀(m:Mem) (v:d9) (a:List Ex),m.Ok->m.lim<=m.nx->iZ m (λ_=>True) a v->S9 a<=10000->
 ∃out m',l7 K fu n (.func 76) [v,iV (d:Int)] m=some [⟨out,m'⟩]∧Ext m m'∧iO m.nx 2 m' out (iP (zU d a))
theorem ZM {n fu d:Nat}(D:d<=100)(F:20000<=fu)(j:C76 KW (n+1) fu d){m:Mem}(q:m.Ok)(o:m.lim<=m.nx){row:List d9}{e:Ex}(h:bF m (λ_=>True) e row)(hp:oJ e<=10000):
  ∃m',l7 KW fu (n+2) (.func 115) [.agg row,iV (d:Int)] m=some [⟨.agg (C8 (bE d e)),m'⟩]∧Ext m m':=by
 obtain⟨k,s,u,a⟩:=e;obtain⟨v,f,rfl,i,A⟩:=h;rw [oJ] at hp;have C:=i.slice.r9;have l:=i.slice.cells;have E:=H7 q [o8 (r4 k s u v),o8 [iV 0,iV 0]];obtain⟨t,H,x,E1,O1⟩:=j (ext m [o8 (r4 k s u v),o8 [iV 0,iV 0]]) v a E.ok (by rw [E.lim];exact aA o E.nx) (iZ.ext ⟨f,i,A⟩ E) (by omega);have w:=Oa d a D (by omega);obtain⟨c,y,E2⟩:=KO E1.ok (by rw [E1.lim,E.lim];exact aA o (aA E.nx E1.nx)) (1,1) (zU d a) w O1.slice (by simp) (by simp) n fu (by have:=w.1;have:=(vF a d).len;have:=O0 a;omega);have g:l7 KW fu (n+1) (.func 75) [.agg [iV 1,iV 1],t] H=_:=y;have b:m.nx+1<c.nx:=gI (by simp) (aA E1.nx E2.nx);have p:c.lim<=m.nx+1:=by rw [E2.lim,E1.lim,E.lim];omega
 have J:=sB p;have G:c.get (m.nx+1)=some (o8 [iV 0,iV 0]):=by rw [E2.old _ (gI (by simp) E1.nx),E1.old _ (by simp),V9 q];rfl
 have z:∀B,(c.set (m.nx+1) B).get (m.nx+1)=some B:=λB=>G8 E2.ok _ b rfl;have I:=Us O1.slice;refine⟨c.set (m.nx+1) (o8 (C8 (bE d (.mk k s u a)))),?_,(E.trans (E1.trans E2)).set b (by omega) _⟩;rw [enter (sf:=f115) rfl rfl];rw [bE];generalize gF (1,1) (zU d a)=r at *;obtain⟨K,L⟩:=r;simp only [C8] at *;simp [f115,P5 q o,r9,C,l,x,g,J,G,z,I]
theorem ZN {n fu d:Nat}(hd:d<=100)(H:20000<=fu)(C:C76 KW (n+1) fu d){m:Mem}(hm:m.Ok)(V:m.lim<=m.nx){v:d9}{rows:List (List d9)}(a:List Ex)(T:gM m (λ_=>True) 4 v rows)(U:H6 m (λ_=>True) a rows)(hp:S9 a<=10000):
  ∀(j i:Nat),i+j=a.length->∀(acc:List (Nat×Nat)) (c3 c6 out x8 x9:d9) (M:Mem) (N:Nat),Ext m M->iO m.nx 2 M out (iP acc)->acc.length<=i->j+1<=N->
  ∃c3' c6' out' x8' x9' M',A9 (λenv m k=>FJ (l7 KW fu (n+2)) fu none env m k) N (fF v (iV (i:Int)) (iV (a.length:Int)) c3 v (.int .i64 ((d:Int)+1)) c6 out x8 x9 nS) M []=some [⟨.exit 0,(fF v (iV (a.length:Int)) (iV (a.length:Int)) c3' v (.int .i64 ((d:Int)+1)) c6' out' x8' x9' nS),M',[],none⟩]∧
   Ext m M'∧iO m.nx 2 M' out' (iP (acc++zU (d+1) (a.drop i))):=by
 have q:=H6.len U;have z:=T.slice.len;rw [q] at z;have a0:=O0 a;intro j;induction j with
 | zero=>
  intro i B acc c3 c6 out x8 x9 M N E O F hN;obtain⟨N,rfl⟩:∃k,N=k+1:=⟨N-1,by omega⟩;obtain rfl:i=a.length:=by omega
  refine⟨.bool false,c6,out,x8,x9,M,?_,E,?_⟩;rw [l8];simp [FJ];rw [abx,zU,ad6];exact O
 | succ j ih=>
  intro i B acc c3 c6 out x8 x9 M N E O F hN;obtain⟨N,rfl⟩:∃k,N=k+1:=⟨N-1,by omega⟩;have h:i<a.length:=by omega
  have l:i<rows.length:=by omega
  have D:=E.ok;have p:M.lim<=M.nx:=by rw [E.lim];exact aA V E.nx
  obtain⟨a7,o1,Y,a2,a3,Z,a5⟩:=(T.slice.ext E).at l;have o:=H6.get U i h l;have J:=o.row;have y:=Z 0 4 (by omega) (by omega);rw [q9,Xb (by omega),Y3] at y;have G:a.drop i=a[i]::a.drop (i+1):=Xl h;have a6:=dN a i h;have u:bF M (λ_=>True) a[i] rows[i]:=Cu E o;generalize hX:a[i]=X at *;generalize hR:rows[i]=R at *;have E1:=H7 D [o8 R];obtain⟨x,P,E2⟩:=ZM hd H C E1.ok (by rw [E1.lim];exact aA p E1.nx) (e:=X) (row:=R) (Cu E1 u) (by omega);have hs:(bE d X).1<=oJ X∧(bE d X).2<=21+d:=⟨(WI X d).2.2.1,(WI X d).2.2.2⟩;generalize hb:bE d X=b at *;obtain⟨f,c⟩:=b;simp only at hs;have s:=E2.ok;have I:x.lim<=x.nx:=by rw [E2.lim,E1.lim];exact aA p (aA E1.nx E2.nx)
  have E3:=H7 s [o8 (C8 (f,c)),o8 (C8 (f,c+1))];have hx:gK (ext x [o8 (C8 (f,c)),o8 (C8 (f,c+1))]) 2 (.slice (x.nx+1) 0 1 1) [C8 (f,c+1)]:=by have:=KD (yg s [o8 (C8 (f,c))]) (C8 (f,c+1)) (by simp [C8]);exact this
  have O3:=((O.ext E1).ext E2).ext E3;have Eall:=E.trans (E1.trans (E2.trans E3));obtain⟨v5,M5,Q,t,F5,W⟩:=Wp (lo:=m.nx) (rs:=2) (bytes:=16) (r:=C8 (f,c+1)) E3.ok (by rw [Eall.lim];exact V) Eall.nx (by omega) O3 hx (by simp [C8]) (by simp [C8,r9]) (by rw [yA];omega) ⟨by omega,by omega⟩;have po:=Us t.slice;have w:iP acc ++ [C8 (f,c+1)]=iP (acc ++ [(f,c+1)]):=by simp [iP]
  rw [w] at t;have EM5:Ext m M5:=⟨F5.ok,aA Eall.nx F5.nx,F5.lim.trans Eall.lim,λi B=>(F5.old i B (by omega)).trans (Eall.old i B)⟩;obtain⟨c3',c6',out',x8',x9',M',S,q1,q2⟩:=ih (i+1) (by omega) (acc ++ [(f,c+1)]) tt ff v5 (.ptr M.nx 0) (.ptr x.nx 0) M5 N EM5 t (by simp;omega) (by omega);refine⟨c3',c6',out',x8',x9',M',?_,q1,?_⟩;obtain⟨x1,x2,x3,x4,x5,x6⟩:=qw D p;obtain⟨y1,y2,y3,y4,y5,y6⟩:=qw s I;have gR:x.get M.nx=some (o8 R):=by rw [E2.old _ (by simp),u7 D];rfl
  have w2:jA ((c:Int)+1)=(c:Int)+1:=M0 (by omega) (by omega);have w3:jA (d:Int)=(d:Int):=M0 (by omega) (by omega);have ed:decide ((d:Int)+1<=0)=false:=decide_eq_false (by omega);obtain⟨g,A⟩:=J;have L:vS (some (o8 (r4 0 0 [] nS))) 0 R=some (o8 R):=by rw [gY (by simp [g]) (by simp)];simp [g]
  have K:ES (some (o8 R)) 0 4=some (.agg R):=by rw [ku (by omega) (by omega),q9,Xb (by omega)]
  simp only [C8,show ((c+1:Nat):Int)=(c:Int)+1 from rfl] at Q P S ⊢;rw [l8,← S];simp [FJ,I5,J5,x1,x2,x3,x4,x5,x6,y1,y2,y3,y4,y5,y6,r9,Y,y,h,g,A,L,K,P,gR,w2,w3,ed,Q,po,bs2,J7 (i:=i) (by omega)];rw [G,zU,hb];simpa using q2
theorem adJ (n fu:Nat)(C:20000<=fu):∀d:Nat,d<=100->C76 KW (n+2*d+1) fu d:=by
 intro d;induction d with
 | zero=>
  intro U m v a j s h K;obtain⟨o,u,l⟩:=h;have b:=H6.len l;have c:=u.slice.len;rw [b] at c;match a,l with
  | [],l=>refine⟨nS,m,?_,Ext.refl j,iO.nil _ _ _⟩;obtain⟨fu,rfl⟩:∃k,fu=k+1:=⟨fu-1,by omega⟩;rw [enter (sf:=f76) rfl rfl];simp [f76,FJ,l8,P5 j s,r9,c]
  | e::a,l=>
   obtain⟨F,W,N,a2,a3,O,a5⟩:=u.slice.at (i:=0) (by rw [b];simp);have y:=H6.get l 0 (by simp) (by rw [b];simp);have E:=y.row;have t:=O 0 4 (by omega) (by omega);rw [q9,Xb (by omega),Y3] at t;generalize hR:o[0]'(by rw [b];simp)=R at *;have E3:=H7 j [o8 R,o8 (C8 (0,21))];have V:gK (ext m [o8 R,o8 (C8 (0,21))]) 2 (.slice (m.nx+1) 0 1 1) [C8 (0,21)]:=by have:=KD (yg j [o8 R]) (C8 (0,21)) (by simp [C8]);exact this
   obtain⟨Y,M5,I,w,F5,L⟩:=Wp (lo:=m.nx) (rs:=2) (bytes:=16) (r:=C8 (0,21)) E3.ok (by rw [E3.lim];exact s) E3.nx (by omega) (iO.nil _ _ _) V (by simp [C8]) (by simp [C8,r9]) (by simp) ⟨by omega,by omega⟩;have G:=Us w.slice;refine⟨Y,M5,?_,⟨F5.ok,aA E3.nx F5.nx,F5.lim.trans E3.lim,λi J=>(F5.old i J (by omega)).trans (E3.old i J)⟩,by simpa [zU,iP] using w⟩;obtain⟨f,x⟩:=E;have H:vS (some (o8 (r4 0 0 [] nS))) 0 R=some (o8 R):=by rw [gY (by simp [f]) (by simp)];simp [f]
   obtain⟨fu,rfl⟩:∃k,fu=k+1:=⟨fu-1,by omega⟩;have D:(0:Int)<((a.length:Int)+1):=by omega
   rw [enter (sf:=f76) rfl rfl];simp only [C8,show ((0:Nat):Int)=0 from rfl,show ((21:Nat):Int)=21 from rfl] at I ⊢;have A:qU v none (λid q p _=>if 0<p then some (d9.ptr id q) else none) (λid q p _=>if 0<p then some (d9.ptr id q) else none)=some (.ptr F W):=by simpa using N
   simp [f76,FJ,l8,P5 j s,r9,c,D,A,t,f,x,H,I,G,bs2]
 | succ d ih=>intro U m v a j s h K;obtain⟨o,u,l⟩:=h;have b:=H6.len l;have c:=u.slice.len;rw [b] at c;have T:=O0 a;obtain⟨P,Q,z,Z,a0,M',g,X,M⟩:=ZN (n:=n+2*d) (fu:=fu) (d:=d) (by omega) C (ih (by omega)) j s a u l K a.length 0 (by omega) [] .undef .undef nS .undef .undef m fu (Ext.refl j) (iO.nil _ _ _) (by simp) (by omega);have S:A9 (λB m k=>FJ (l7 KW fu (n+2*d+2)) fu none B m k) fu (fF v (iV 0) (iV (a.length:Int)) .undef v (.int .i64 ((d:Int)+1)) .undef nS .undef .undef nS) m []=_:=g;refine⟨z,M',?_,X,by simpa using M⟩;have G:=Us M.slice;rw [show n+2*(d+1)+1=(n+2*d+2)+1 from by omega,enter (sf:=f76) rfl rfl];simp [f76,P5 j s,r9,c,S,G]
theorem adK (n fu d:Nat)(a:20000<=fu)(b:d<=100)(c:2*d+1<=n):C76 KW n fu d:=by
 have:=adJ (n-(2*d+1)) fu a d b
 rwa [show n-(2*d+1)+2*d+1=n from by omega] at this
theorem R4.ext {m m':Mem}{S:Nat->Prop}{a:List aR}{v:d9}(h:R4 m S a v)(e:Ext m m'):R4 m' S a v:=by obtain⟨b,d,f⟩:=h;exact⟨b,d.mono e.nx (λi c _=>e.old i c) λ_ _ h=>h,I4.mono e.nx (λi c _=>e.old i c) (λ_ _ h=>h) a b f⟩
theorem V5:∀l:List aR,l.length<=V8 l
 | []=>by simp
 | e::l=>by have:=V5 l;have:1<=stP e:=by {cases e;simp [stP];omega};simp [V8];omega
theorem kF:∀(l:List aR) (i:Nat) (h:i<l.length),stP l[i]<=V8 l
 | e::l,0,h=>by simp [V8]
 | e::l,i+1,h=>by have:=kF l i (by simpa using h);simp [V8];omega
theorem WO (l:List aR)(d:Nat):(bS d l).1<=V8 l∧(bS d l).2<=21+d:=⟨(Je l d).2.2.1,(Je l d).2.2.2⟩
theorem KP {x i:OF}{ls:List d9}{env:T d9}{a b:d9}(e:x ls env=.agg [a,b])(d:i ls env=.int .i64 0):Am 1 2 x i ls env=some a:=by show tN (x ls env) (λc=>idx 2 (i ls env) λk=>oN (Nat.mul k 1) c)=_;rw [e,d];rfl
theorem Rq {x i:OF}{ls:List d9}{env:T d9}{a b:d9}(e:x ls env=.agg [a,b])(d:i ls env=.int .i64 1):Am 1 2 x i ls env=some b:=by show tN (x ls env) (λc=>idx 2 (i ls env) λk=>oN (Nat.mul k 1) c)=_;rw [e,d];rfl
theorem Qi (a b c:Nat×Nat):comb (comb a b) c=comb a (comb b c):=by simp only [comb,ag0];omega
def C35 (K:Known)(n fu d:Nat):Prop:=∀(m:Mem) (v:d9) (l:List aR),m.Ok->m.lim<=m.nx->R4 m (λ_=>True) l v->V8 l<=10000->
 ∃m',l7 K fu n (.func 35) [v,iV (d:Int)] m=some [⟨.agg (C8 (bS d l)),m'⟩]∧Ext m m'
theorem FN {n fu d:Nat}(hd:d<=100)(a1:20000<=fu)(F:C35 KW (n+1) fu d){M:Mem}(hM:M.Ok){q:Nat}(u:q<M.nx)(t:M.lim<=q){s:Nat×Nat}(hg:M.get q=some (o8 (C8 s)))(L:s.1<=100000)(O:s.2<=1000)
  {vt vf y:d9} {i:Nat} {b:List aR} (z:i<2) (hb:[vt,vf][i]?=some y) (v:R4 M (λ_=>True) b y) (hp:V8 b<=10000) (R S T U V W X Y E P x14 j:d9) (N:Nat):
  ∃x14' M',A9 (λenv m k=>FH (l7 KW fu (n+1)) fu none env m k) (N+1) (kE R S T U V (.int .i64 ((d:Int)+1)) W X Y (iV (i:Int)) E (.agg [vt,vf]) P (.ptr q 0) x14 j) M []=A9 (λenv m k=>FH (l7 KW fu (n+1)) fu none env m k) N (kE R S T U V (.int .i64 ((d:Int)+1)) W X Y (.int .i64 ((i+1:Nat):Int)) tt (.agg [vt,vf]) y (.ptr q 0) x14' j) M' []∧
   At q M M'∧M'.get q=some (o8 (C8 (comb s ((bS d b).1,(bS d b).2+1)))):=by
 obtain⟨g,Z,E1⟩:=F M y b hM (by omega) v hp;obtain⟨G,H⟩:=WO b d;generalize hB:bS d b=B at *;obtain⟨e,c⟩:=B;obtain⟨C,D⟩:=s;simp only at G H L O;have f:=E1.ok;have r:g.lim<=g.nx:=by rw [E1.lim];have:=E1.nx;omega
 have E2:=H7 f [o8 (C8 (e,c)),o8 (C8 (e,c+1))];have w:gK (ext g [o8 (C8 (e,c)),o8 (C8 (e,c+1))]) 2 (.slice (g.nx+1) 0 1 1) (iP [(e,c+1)]):=by have:=KD (yg f [o8 (C8 (e,c))]) (C8 (e,c+1)) (by simp [C8]);exact this
 obtain⟨A,g3,E3⟩:=KO E2.ok (by rw [E2.lim];exact aA r E2.nx) (C,D) [(e,c+1)] ⟨by simp,by simp;omega⟩ w (by simp only;omega) (by simp only;omega) n fu (by simp;omega);have Eall:=E1.trans (E2.trans E3);have J:q<A.nx:=gI u Eall.nx;have I:A.lim<=q:=by rw [Eall.lim];exact t
 have st:=sB I;have l:A.get q=some (o8 (C8 (C,D))):=(Eall.old q u).trans hg;have o:(ext g [o8 (C8 (e,c))]).get q=some (o8 (C8 (C,D))):=by rw [U6 f _ (gI u E1.nx),E1.old q u,hg]
 refine⟨.ptr g.nx 0,A.set q (o8 (C8 (comb (C,D) (e,c+1)))),?_,((At.start hM u t).nx Eall).set _,G8 Eall.ok _ J rfl⟩;obtain⟨y1,y2,y3,y4,y5,y6⟩:=qw f r;have w2:jA ((c:Int)+1)=(c:Int)+1:=M0 (by omega) (by omega);have w3:jA (d:Int)=(d:Int):=M0 (by omega) (by omega);have K:∀(Q:Type) (p:d9->Q) (q:Q),bU y p q=q:=λQ p q=>by obtain⟨a0,h,_⟩:=v;exact h.slice.lY p q
 have q0:=λx i ls env w z=>KP (x:=x) (i:=i) (ls:=ls) (env:=env) (a:=vt) (b:=vf) w z;have q1:=λx i ls env w z=>Rq (x:=x) (i:=i) (ls:=ls) (env:=env) (a:=vt) (b:=vf) w z;rcases i with _ | _ | i
 rotate_left 2
 omega;all_goals
  obtain rfl:=Y8 hb;simp only [C8,gF,List.foldl,comb,show ((c+1:Nat):Int)=(c:Int)+1 from rfl] at Z g3 l o ⊢;rw [l8];simp [FH,I5,J5,y1,y2,y3,y4,y5,y6,r9,bs2,Z,g3,l,o,st,w2,w3,K,q0,q1,Qh,show jA 1=1 from M0 (by decide) (by decide),show jA (1+1)=2 from M0 (by decide) (by decide),show jA 2=2 from M0 (by decide) (by decide)]
theorem TM {n fu d:Nat}(J:d<=100)(y:20000<=fu)(x:C35 KW (n+1) fu d){M:Mem}(P:M.Ok){q:Nat}(K:q<M.nx)(z:M.lim<=q){s:Nat×Nat}(S:M.get q=some (o8 (C8 s)))(T:s.1<=20000)(U:s.2<=500)
  {vt vf:d9} {t f:List aR} (V:R4 M (λi=>i≠q) t vt) (R:R4 M (λi=>i≠q) f vf) (I:V8 t<=10000) (H:V8 f<=10000) (g h j o p r u w c e x14 b:d9) (N:Nat):
  ∃x12' x14' M',A9 (λenv m k=>FH (l7 KW fu (n+1)) fu none env m k) (N+3) (kE g h j o p (.int .i64 ((d:Int)+1)) r u w (iV 0) c (.agg [vt,vf]) e (.ptr q 0) x14 b) M []=some [⟨.exit 2,(kE g h j o p (.int .i64 ((d:Int)+1)) r u w (iV 2) ff (.agg [vt,vf]) x12' (.ptr q 0) x14' b),M',[],none⟩]∧
   At q M M'∧M'.get q=some (o8 (C8 (comb (comb s ((bS d t).1,(bS d t).2+1)) ((bS d f).1,(bS d f).2+1)))):=by
 have A:∀(m:Mem) (l:List aR) (v:d9),R4 m (λi=>i≠q) l v->R4 m (λ_=>True) l v:=λm l v ⟨a,C,D⟩=>⟨a,C.mono (J2 _) (λ_ _ _=>rfl) λ_ _ _=>trivial,I4.mono (J2 _) (λ_ _ _=>rfl) (λ_ _ _=>trivial) l a D⟩;obtain⟨W,M1,L,A1,G1⟩:=FN (vt:=vt) (vf:=vf) (i:=0) J y x P K z S (by omega) (by omega) (by omega) rfl (A _ _ _ V) I g h j o p r u w c e x14 b (N+2);have E:R4 M1 (λ_=>True) f vf:=by obtain⟨a,C,D⟩:=R;exact⟨a,C.mono A1.fr.nx (λi F G=>A1.fr.old i F G) λ_ _ _=>trivial,I4.mono A1.fr.nx (λi F G=>A1.fr.old i F G) (λ_ _ _=>trivial) f a D⟩
 have Q:=WO t d;obtain⟨X,M2,O,A2,G2⟩:=FN (vt:=vt) (vf:=vf) (i:=1) J y x A1.ok A1.Dp A1.lim G1 (by simp only [comb];omega) (by simp only [comb];omega) (by omega) rfl E H g h j o p r u w tt vt W b (N+1);have B:A9 (λenv m k=>FH (l7 KW fu (n+1)) fu none env m k) (N+3) (kE g h j o p (.int .i64 ((d:Int)+1)) r u w (iV 0) c (.agg [vt,vf]) e (.ptr q 0) x14 b) M []=_:=L;refine⟨vf,X,M2,?_,⟨K,z,A1.fr.trans (A2.fr.down A1.fr.nx)⟩,G2⟩;rw [B,O,l8];simp [FH]
theorem TN {n fu d:Nat}(hd:d<=100)(ah:20000<=fu)(a8:C35 KW (n+1) fu d)(a9:C76 KW (n+1) fu d){m:Mem}{p:Nat}(hm:m.Ok)(hp:p+1<m.nx)(hl:m.lim<=p){v:d9}{rows:List (List d9)}(l:List aR)(h1:gM m (λi=>i<p) 5 v rows)(h2:I4 m (λi=>i<p) l rows)(aw:V8 l<=10000):
  ∀(j i:Nat),i+j=l.length->∀(s:Nat×Nat) (c3 c6 x8 x9 c10 x11 x12 x13 x14:d9) (M:Mem) (N:Nat),At (p+1) m M->M.get (p+1)=some (o8 (C8 s))->s.1<=10000*i->s.2<=1000->j+1<=N->
  ∃c3' c6' x8' x9' c10' x11' x12' x13' x14' M',A9 (λenv m k=>FI (l7 KW fu (n+1)) fu none env m k) N (kE v (iV (i:Int)) (iV (l.length:Int)) c3 v (.int .i64 ((d:Int)+1)) c6 (.ptr p 0) x8 x9 c10 x11 x12 x13 x14 (.ptr (p+1) 0)) M [] =
   some [⟨.exit 0,(kE v (iV (l.length:Int)) (iV (l.length:Int)) c3' v (.int .i64 ((d:Int)+1)) c6' (.ptr p 0) x8' x9' c10' x11' x12' x13' x14' (.ptr (p+1) 0)),M',[],none⟩]∧At (p+1) m M'∧M'.get (p+1)=some (o8 (C8 (comb s (bS (d+1) (l.drop i))))):=by
 have D:=I4.len h2;have Y:=h1.slice.len;rw [D] at Y;have au:=V5 l;intro j;induction j with
 | zero=>
  intro i c s c3 c6 x8 x9 c10 x11 x12 x13 x14 M N b hg al am hN;obtain⟨N,rfl⟩:∃k,N=k+1:=⟨N-1,by omega⟩;obtain rfl:i=l.length:=by omega
  refine⟨.bool false,c6,x8,x9,c10,x11,x12,x13,x14,M,?_,b,?_⟩;rw [l8];simp [FI];rw [abx,bS,hg];simp [comb]
 | succ j ih=>
  intro i c s c3 c6 x8 x9 c10 x11 x12 x13 x14 M N b hg al am hN;obtain⟨N,rfl⟩:∃k,N=k+1:=⟨N-1,by omega⟩;have u:i<l.length:=by omega
  have w:i<rows.length:=by omega
  have hM:=b.ok;have ab:=b.zY;have pr:∀i,i<m.nx->i<p->M.get i=m.get i:=λi c hq=>b.fr.old i c (by omega);obtain⟨b0,o1,a1,a2,a3,a4,a5⟩:=(gM.mono h1 b.fr.nx pr (S':=λi=>i<p) λ_ _ h=>h).slice.at w;have x:=I4.get h2 i u w;have ax:=x.row;have O:=a4 0 5 (by omega) (by omega);rw [q9,Xb (by omega),Y3] at O;have ae:l.drop i=l[i]::l.drop (i+1):=Xl u;have ak:=kF l i u;have E:lD M (λi=>i<p) l[i] rows[i]:=lD.mono b.fr.nx pr (λ_ _ h=>h) _ _ x;generalize hX:l[i]=X at *;generalize hR:rows[i]=R at *;obtain⟨I,J,e,t,f⟩:=X;obtain⟨ve,L,K,re,rt,rf,rfl,A,af,F,an,C,ag⟩:=E;rw [stP] at ak;have E1:=H7 hM [o8 (r5 I J ve L K)];have Q:=b.nx E1;obtain⟨ao,m2,g2,E2,O2⟩:=a9 (ext M [o8 (r5 I J ve L K)]) ve e E1.ok Q.zY
   ⟨re,A.mono E1.nx (λi c _=>E1.old i c) λ_ _ _=>trivial,H6.mono E1.nx (λi c _=>E1.old i c) (λ_ _ _=>trivial) _ _ af⟩ (by omega)
  have S:=Q.nx E2;have sm:=Oa d e hd (by omega);have az:=(vF e d).len;have ar:=O0 e;obtain⟨y,g3,E3⟩:=KO E2.ok S.zY (1,1) (zU d e) sm O2.slice (by simp) (by simp) n fu (by omega);have z:=S.nx E3;have ay:(gF (1,1) (zU d e)).1<=1+S9 e∧(gF (1,1) (zU d e)).2<=21+d:=⟨(zV (vF e d)).2.2.1,(zV (vF e d)).2.2.2⟩;generalize hW:gF (1,1) (zU d e)=W at *;have E4:=H7 E3.ok [o8 (C8 W)];have T:=z.nx E4;have E14:=E1.trans (E2.trans (E3.trans E4));have av:M.nx<=y.nx:=aA E1.nx (aA E2.nx E3.nx);have Z:M.nx<y.nx:=gI (by simp) (aA E2.nx E3.nx);have tr:∀(l:List aR) (v:d9) (rows:List (List d9)),gM M (λi=>i<p) 5 v rows->I4 M (λi=>i<p) l rows->R4 (ext y [o8 (C8 W)]) (λi=>i≠y.nx) l v:=λl v rows x1 x2=>⟨rows,x1.mono E14.nx (λi c _=>E14.old i c) λi _ h=>by have:=b.Dp;omega,I4.mono E14.nx (λi c _=>E14.old i c) (λi _ h=>by have:=b.Dp;omega) _ _ x2⟩
  obtain⟨N2,ac⟩:∃k,fu=k+3:=⟨fu-3,by omega⟩;obtain⟨x12',x14',m5,g5,a,G5⟩:=TM hd ah a8 E4.ok (q:=y.nx) (by simp) (by rw [E4.lim];exact z.zY) (s:=W) (by rw [u7 E3.ok];rfl) (by omega) (by omega) (tr t L rt F an) (tr f K rf C ag) (by omega) (by omega)
   v (iV (i:Int)) (iV (l.length:Int)) tt v ff (.ptr p 0) (.ptr M.nx 0) c10 x12 x14 (.ptr (p+1) 0) N2
  rw [← ac] at g5;have aq:=WO t d;have ap:=WO f d;have U:(ZK (d+1) (.mk I J e t f))=comb (comb W ((bS d t).1,(bS d t).2+1)) ((bS d f).1,(bS d f).2+1):=by rw [ZK,← hW];rfl
  have ad:(comb (comb W ((bS d t).1,(bS d t).2+1)) ((bS d f).1,(bS d f).2+1)).1<=10000∧(comb (comb W ((bS d t).1,(bS d t).2+1)) ((bS d f).1,(bS d f).2+1)).2<=1000:=by simp only [comb];omega
  rw [← U] at G5 ad;generalize hB:ZK (d+1) (.mk I J e t f)=B at *;have r:=a.ok;have V:m5.lim<=m5.nx:=a.zY;have a0:m5.get (p+1)=some (o8 (C8 s)):=by have h0:p+1<M.nx:=b.Dp;rw [a.fr.old _ (by simp;omega) (by omega),U6 E3.ok _ (by omega),E3.old _ (by have:=E2.nx;simp at this;omega),E2.old _ (by simp;omega),U6 hM _ h0,hg]
  have E6:=H7 r [o8 (C8 B)];have hx:gK (ext m5 [o8 (C8 B)]) 2 (.slice m5.nx 0 1 1) (iP [B]):=KD r (C8 B) (by simp [C8]);obtain⟨m7,g7,E7⟩:=KO E6.ok (by rw [E6.lim];exact aA V E6.nx) s [B] ⟨by simp,by simp;omega⟩ hx (by omega) (by omega) n fu (by simp;omega);have g:At (p+1) m m5:=⟨b.lt,b.limp,T.fr.trans ⟨a.ok,a.fr.nx,a.fr.lim,λi c hn=>a.fr.old i (by have:=T.fr.nx;omega) (by have:=b.fr.nx;omega)⟩⟩;have o:=(g.nx E6).nx E7;have aa:=o.set (o8 (C8 (comb s B)));obtain⟨c3',c6',x8',x9',c10',x11',G,x13',H,M',gg,q1,q2⟩:=ih (i+1) (by omega) (comb s B) tt ff (.ptr M.nx 0) (iV 2) ff (.agg [L,K]) x12' (.ptr y.nx 0) x14' (m7.set (p+1) (o8 (C8 (comb s B)))) N aa (G8 o.ok _ o.Dp rfl) (by simp only [comb];omega) (by simp only [comb];omega) (by omega);refine⟨c3',c6',x8',x9',c10',x11',G,x13',H,M',?_,q1,?_⟩;obtain⟨x1,x2,x3,x4,x5,x6⟩:=qw hM ab;obtain⟨y1,y2,y3,y4,y5,y6⟩:=qw E3.ok z.zY;obtain⟨z1,z2,z3,z4,z5,z6⟩:=qw r V;have aj:m7.lim<=p+1:=o.lim;have st:=sB aj;have ai:m7.get (p+1)=some (o8 (C8 s)):=by rw [E7.old _ (by have:=g.Dp;simp;omega),U6 r _ g.Dp,a0]
  have P:y.get M.nx=some (o8 (r5 I J ve L K)):=by rw [E3.old _ (gI (by simp) E2.nx),E2.old _ (by simp),u7 hM];rfl
  have a7:(ext y [o8 (C8 W)]).get M.nx=some (o8 (r5 I J ve L K)):=by rw [U6 E3.ok _ Z,P]
  have w3:jA (d:Int)=(d:Int):=M0 (by omega) (by omega);have ed:decide ((d:Int)+1<=0)=false:=decide_eq_false (by omega);have ce:=A.slice.cells;have ct:=F.slice.cells;have cf:=C.slice.cells;have oe:=A.slice.r9;have ot:=F.slice.r9;have of:=C.slice.r9;have po:=Us O2.slice;obtain⟨W1,W2⟩:=W;obtain⟨B1,B2⟩:=B;obtain⟨s1,s2⟩:=s;simp only [C8,gF,List.foldl,comb,Y3] at *;have a6:l7 KW fu (n+1) (.func 75) [.agg [iV 1,iV 1],ao] m2=_:=g3;rw [l8,← gg];simp [FI,I5,J5,x1,x2,x3,x4,x5,x6,y1,y2,y3,y4,y5,y6,z1,z2,z3,z4,z5,z6,bs2,a1,O,u,ce,ct,cf,oe,ot,of,g2,a6,g5,g7,G5,a0,st,ai,P,a7,w3,ed,po,Qh,J7 (i:=i) (by omega)];rw [ae,bS,hB,← Qi];exact q2
theorem adL (fu:Nat)(w:20000<=fu):∀d n:Nat,d<=100->C35 KW (n+2*d+2) fu d:=by
 intro d;induction d with
 | zero=>
  intro n hd m v a j x h P;obtain⟨rows,u,o⟩:=h;have b:=I4.len o;have c:=u.slice.len;rw [b] at c;obtain⟨fu,rfl⟩:∃k,fu=k+1:=⟨fu-1,by omega⟩;match a,o with
  | [],o=>refine⟨ext m [o8 (C8 (0,0)),o8 (C8 (0,0))],?_,H7 j _⟩;rw [enter (sf:=f35) rfl rfl];simp [f35,FI,l8,P5 j x,r9,c,bS,C8]
  | e::a,o=>
   obtain⟨id1,o1,U,V,a3,W,a5⟩:=u.slice.at (i:=0) (by rw [b];simp);have z:=I4.get o 0 (by simp) (by rw [b];simp);have K:=z.row;have t:=W 0 5 (by omega) (by omega);rw [q9,Xb (by omega),Y3] at t;generalize hR:rows[0]'(by rw [b];simp)=R at *;refine⟨ext m [o8 (C8 (0,21)),o8 (C8 (0,0)),o8 R],?_,H7 j _⟩;obtain⟨f,y⟩:=K;have L:vS (some (o8 (r5 0 [] nS nS nS))) 0 R=some (o8 R):=by rw [gY (by simp [f]) (by simp)];simp [f]
   have l:(0:Int)<((a.length:Int)+1):=by omega
   have g4:(ext m [o8 [iV 0,iV 0],o8 [iV 0,iV 0]]).get id1=m.get id1:=U6 j _ V;have C:qU v none (λid s q _=>if 0<q then some (d9.ptr id s) else none) (λid s q _=>if 0<q then some (d9.ptr id s) else none)=some (.ptr id1 o1):=by simpa using U
   rw [enter (sf:=f35) rfl rfl];simp [f35,FI,l8,P5 j x,r9,c,l,C,t,f,y,L,g4,bS,C8]
 | succ d ih=>
  intro n hd m v a j x h P;obtain⟨rows,u,o⟩:=h;have b:=I4.len o;have c:=u.slice.len;rw [b] at c;have a0:=V5 a;have E:=H7 j [o8 (C8 (0,0)),o8 (C8 (0,0))];have hA:At (m.nx+1) (ext m [o8 (C8 (0,0)),o8 (C8 (0,0))]) _:=At.start E.ok (by simp) (by rw [E.lim];omega);have F:gM (ext m [o8 (C8 (0,0)),o8 (C8 (0,0))]) (λi=>i<m.nx) 5 v rows:=by have:=gM.mono (m':=ext m [o8 (C8 (0,0)),o8 (C8 (0,0))]) u E.nx (λi I _=>E.old i I) (S':=λi=>i<m.nx) λ_ h _=>h;exact this
  have G:I4 (ext m [o8 (C8 (0,0)),o8 (C8 (0,0))]) (λi=>i<m.nx) a rows:=I4.mono E.nx (λi I _=>E.old i I) (λ_ h _=>h) _ _ o;obtain⟨X,Y,a6,a7,O,S,M,T,N,M',g,A,Q⟩:=TN (d:=d) (n:=n+2*d+2) (p:=m.nx) (by omega) w (by have:=ih (n+1) (by omega);rwa [show n+1+2*d+2=n+2*d+2+1 from by omega] at this) (adK _ _ _ w (by omega) (by omega)) E.ok (by simp) (by rw [E.lim];exact x) a F G P a.length 0 (by omega) (0,0) .undef .undef .undef .undef .undef .undef .undef .undef .undef (_) fu hA (by rw [V9 j];rfl) (by simp) (by simp) (by omega);have Z:A9 (λD m k=>FI (l7 KW fu (n+2*d+3)) fu none D m k) fu (kE v (iV 0) (iV (a.length:Int)) .undef v (.int .i64 ((d:Int)+1)) .undef (.ptr m.nx 0) .undef .undef .undef .undef .undef .undef .undef (.ptr (m.nx+1) 0)) (ext m [o8 [iV 0,iV 0],o8 [iV 0,iV 0]]) []=_:=g;rw [q9,show comb (0,0) (bS (d+1) a)=bS (d+1) a from by simp [comb]] at Q;have H:M'.get m.nx=some (o8 [iV 0,iV 0]):=by rw [A.fr.old _ (by simp) (by omega),u7 j];rfl
  have l:m.nx<M'.nx:=gI (by simp) A.fr.nx;have J:M'.lim<=m.nx:=by have:=A.fr.lim;rw [E.lim] at this;omega
  have st:=sB J;have gs:∀B,(M'.set m.nx B).get m.nx=some B:=λB=>G8 A.ok _ l rfl;refine⟨M'.set m.nx (o8 (C8 (bS (d+1) a))),?_,(A.ext E (by omega)).set l (by omega) _⟩;generalize bS (d+1) a=r at *;obtain⟨r1,r2⟩:=r;simp only [C8] at *;rw [show n+2*(d+1)+2=(n+2*d+3)+1 from by omega,enter (sf:=f35) rfl rfl];simp [f35,P5 j x,r9,c,Z,H,Q,st,gs]
theorem adM (n fu d:Nat)(a:20000<=fu)(b:d<=100)(c:2*d+2<=n):C35 KW n fu d:=by
 have:=adL fu a d (n-(2*d+2)) b
 rwa [show n-(2*d+2)+2*d+2=n from by omega] at this
theorem WQ {m:Mem}(x:m.Ok)(u:m.lim<=m.nx){v:d9}{l:List aR}(h:R4 m (λ_=>True) l v)(hp:V8 l<=10000)(n fu:Nat)(f:20000<=fu):
  ∃m',l7 KW fu (n+50) (.func 15) [v] m=some [⟨.tuple [.int .i64 (lF l).1,.int .i64 (lF l).2],m'⟩]∧Ext m m':=by
 obtain⟨j,w,E1⟩:=adM (n+49) fu 22 f (by omega) (by omega) m v l x u h hp;have y:=WO l 22;rw [← WJ l];generalize bS 22 l=r at *;obtain⟨d,e⟩:=r;have b:=E1.ok;have g:j.lim<=j.nx:=by rw [E1.lim];exact aA u E1.nx
 obtain⟨k,o,p,q,s,t⟩:=qw b g;refine⟨ext j [o8 (C8 (d,e))],?_,E1.trans (H7 b _)⟩;have a:l7 KW fu (n+49) (.func 35) [v,iV 22] m=_:=w;rw [enter (sf:=f15) rfl rfl];simp only [C8] at *;by_cases h1:500<d;have c:decide ((500:Int)<(d:Int))=true:=decide_eq_true (by omega);simp [f15,I5,J5,k,o,p,q,s,t,a,c,h1];have c:decide ((500:Int)<(d:Int))=false:=decide_eq_false (by omega);by_cases h2:20<e;have i:decide ((20:Int)<(e:Int))=true:=decide_eq_true (by omega);simp [f15,I5,J5,k,o,p,q,s,t,a,c,i,h1,h2];have i:decide ((20:Int)<(e:Int))=false:=decide_eq_false (by omega);simp [f15,I5,J5,k,o,p,q,s,t,a,c,i,h1,h2]
def ZO (K:Known)(n fu d:Nat):Prop:=∀(m:Mem) (row:List d9) (e:Ex),m.Ok->m.lim<=m.nx->bF m (λ_=>True) e row->oJ e<=10000->
 ∃m',l7 K fu n (.func 116) [.agg row,iV (d:Int)] m=some [⟨.agg (C8 (rE d e)),m'⟩]∧Ext m m'
theorem WR {n fu d:Nat}(a9:1<=d)(hd:d<=20)(aa:20000<=fu)(J:ZO KW n fu (d+1)){m:Mem}{p:Nat}(hm:m.Ok)(hp:p+2<m.nx)(hl:m.lim<=p){k0 n0:Int}{s0:By}{v:d9}{rows:List (List d9)}(O:m.get p=some (o8 (r4 k0 n0 s0 v)))(l:List Ex)(V:gM m (λi=>i<p) 4 v rows)(h2:H6 m (λi=>i<p) l rows)(ad:S9 l<=10000):
  ∀(j i:Nat),i+j=l.length->∀(s:Nat×Nat) (c c6 x8:d9) (M:Mem) (N:Nat),At (p+2) m M->M.get (p+2)=some (o8 (C8 s))->s.1<=20000->s.2<=1000->j+1<=N->
  ∃xi c' c6' x8' M',A9 (λenv m k=>vC (l7 KW fu n) fu none env m k) N (Ya (.agg (r4 k0 n0 s0 v)) (iV (i:Int)) (.ptr p 0) (.ptr (p+2) 0) c (iV (d:Int)) c6 (.ptr (p+1) 0) x8) M [] =
   some [⟨.exit 0,(Ya (.agg (r4 k0 n0 s0 v)) xi (.ptr p 0) (.ptr (p+2) 0) c' (iV (d:Int)) c6' (.ptr (p+1) 0) x8'),M',[],none⟩]∧At (p+2) m M'∧M'.get (p+2)=some (o8 (C8 (pX d (l.drop i) s))):=by
 have E:=H6.len h2;have f:=V.slice.len;rw [E] at f;have ab:=O0 l;intro j;induction j with
 | zero=>
  intro i hi s c c6 x8 M N g D Q S hN;obtain⟨N,rfl⟩:∃k,N=k+1:=⟨N-1,by omega⟩;obtain rfl:i=l.length:=by omega
  have e:M.get p=some (o8 (r4 k0 n0 s0 v)):=by rw [g.fr.old p (by omega) (by omega),O]
  refine⟨iV (l.length:Int),.bool false,c6,x8,M,?_,g,?_⟩;rw [l8];simp [vC,e,f];rw [abx,pX,D]
 | succ j ih=>
  intro i hi s c c6 x8 M N g D Q S hN;obtain⟨N,rfl⟩:∃k,N=k+1:=⟨N-1,by omega⟩;have r:i<l.length:=by omega
  have u:i<rows.length:=by omega
  have w:(i:Int)<(l.length:Int):=by omega
  have hM:=g.ok;have Z:=g.zY;have e:M.get p=some (o8 (r4 k0 n0 s0 v)):=by rw [g.fr.old p (by omega) (by omega),O]
  have K:l.drop i=l[i]::l.drop (i+1):=Xl r;rw [K,pX];by_cases h500:500<s.1;have h5:¬ (s.1:Int)<=500:=by omega
  obtain⟨t,U⟩:=s;simp only [C8] at D h5 h500;refine⟨iV (i:Int),.bool false,c6,x8,M,?_,g,?_⟩;have W:¬ t<=500:=by omega
  rw [l8];simp [vC,e,D,f,r,w,h5,W];rw [if_pos h500];simpa [C8] using D;have pr:∀i,i<m.nx->i<p->M.get i=m.get i:=λi hi hq=>g.fr.old i hi (by omega);obtain⟨af,o1,a1,a2,a3,a4,a5⟩:=(gM.mono V g.fr.nx pr (S':=λi=>i<p) λ_ _ h=>h).slice.at u;have z:=H6.get h2 i r u;have ae:=z.row;have I:=a4 0 4 (by omega) (by omega);rw [q9,Xb (by omega),Y3] at I;have ac:=dN l i r;have F:bF M (λ_=>True) l[i] rows[i]:=bF.mono g.fr.nx pr (λ_ _ _=>trivial) _ _ z;generalize hX:l[i]=X at *;generalize hR:rows[i]=R at *;obtain⟨m2,g2,E2⟩:=J M R X hM Z F (by omega);have hb:=Rn X (d+1) (by omega);have a0:(rE (d+1) X).1<=15000∧(rE (d+1) X).2<=50:=⟨by have:=hb.2.2.1;omega,by have:=hb.2.2.2;omega⟩;generalize hB:rE (d+1) X=B at *;obtain⟨G,H⟩:=B;obtain⟨t,U⟩:=s;simp only at a0 h500 Q S;have o:=g.nx E2;have E3:=H7 E2.ok [o8 (C8 (G,H))];have A:=o.nx E3;have Y:=A.set (o8 (C8 (t+G,max U (H+1))));obtain⟨a8,c',c6',x8',M',gg,q1,q2⟩:=ih (i+1) (by omega) (t+G,max U (H+1)) tt ff (.ptr m2.nx 0) _ N Y (G8 A.ok _ A.Dp rfl) (by simp only;omega) (by simp only;omega) (by omega);refine⟨a8,c',c6',x8',M',?_,q1,?_⟩;obtain⟨y1,y2,y3,y4,y5,y6⟩:=qw E2.ok o.zY;have P:m2.get (p+2)=some (o8 (C8 (t,U))):=(E2.old _ g.Dp).trans D;have a6:(ext m2 [o8 (C8 (G,H))]).get (p+2)=some (o8 (C8 (t,U))):=by rw [U6 E2.ok _ o.Dp,P]
  have so:=λ(β:Type) (l:List Q6) (off:Nat) (vs:List d9) (k:Mem->Option β)=>zX (β:=β) E2.ok o.Dp o.lim l off vs k;have a7:(t:Int)<=500:=by omega
  have T:t<=500:=by omega
  have L:¬ (20:Int)<(d:Int):=by omega
  have C:¬ 20<d:=by omega
  have w1:jA ((d:Int)+1)=(d:Int)+1:=M0 (by omega) (by omega);have w2:jA ((H:Int)+1)=(H:Int)+1:=M0 (by omega) (by omega);have w3:jA ((t:Int)+(G:Int))=(t:Int)+(G:Int):=M0 (by omega) (by omega);have q:=λx y ls env a b hx hy=>Dq (x:=x) (y:=y) (ls:=ls) (env:=env) (a:=a) (b:=b) hx hy;have cv:=V.slice.cells;simp only [C8,show ((d+1:Nat):Int)=(d:Int)+1 from rfl] at *;rw [l8,← gg];simp [vC,I5,J5,y1,y2,y3,y4,y5,y6,e,D,f,r,w,a7,T,L,C,a1,I,g2,P,a6,so,w1,w2,w3,q,Qh,J7 (i:=i) (by omega)];rw [if_neg h500,if_neg (by omega)];exact q2
theorem ZP {n fu d:Nat}(a9:1<=d)(hd:d<=20)(aa:20000<=fu)(J:ZO KW n fu (d+1)){m:Mem}{p:Nat}(hm:m.Ok)(hp:p+2<m.nx)(hl:m.lim<=p){k0:Int}{s0:By}{v vt vf:d9}{rows:List (List d9)}(O:m.get p=some (o8 (r5 k0 s0 v vt vf)))(l:List Ex)(V:gM m (λi=>i<p) 4 v rows)(h2:H6 m (λi=>i<p) l rows)(ad:S9 l<=10000):
  ∀(j i:Nat),i+j=l.length->∀(s:Nat×Nat) (c x8:d9) (M:Mem) (N:Nat),At (p+2) m M->M.get (p+2)=some (o8 (C8 s))->s.1<=20000->s.2<=1000->j+1<=N->
  ∃xi c' x8' M',A9 (λenv m k=>IX (l7 KW fu n) fu none env m k) N (fF (.agg (r5 k0 s0 v vt vf)) (iV (d:Int)) ff (.ptr (p+1) 0) (iV (i:Int)) (.ptr p 0) (.ptr (p+2) 0) c x8 .undef .undef) M [] =
   some [⟨.exit 0,(fF (.agg (r5 k0 s0 v vt vf)) (iV (d:Int)) ff (.ptr (p+1) 0) xi (.ptr p 0) (.ptr (p+2) 0) c' x8' .undef .undef),M',[],none⟩]∧At (p+2) m M'∧M'.get (p+2)=some (o8 (C8 (OD d (l.drop i) s))):=by
 have E:=H6.len h2;have f:=V.slice.len;rw [E] at f;have ab:=O0 l;intro j;induction j with
 | zero=>
  intro i hi s c x8 M N g D Q S hN;obtain⟨N,rfl⟩:∃k,N=k+1:=⟨N-1,by omega⟩;obtain rfl:i=l.length:=by omega
  have e:M.get p=some (o8 (r5 k0 s0 v vt vf)):=by rw [g.fr.old p (by omega) (by omega),O]
  refine⟨iV (l.length:Int),.bool false,x8,M,?_,g,?_⟩;rw [l8];simp [IX,e,f];rw [abx,OD,D]
 | succ j ih=>
  intro i hi s c x8 M N g D Q S hN;obtain⟨N,rfl⟩:∃k,N=k+1:=⟨N-1,by omega⟩;have r:i<l.length:=by omega
  have u:i<rows.length:=by omega
  have w:(i:Int)<(l.length:Int):=by omega
  have hM:=g.ok;have Z:=g.zY;have e:M.get p=some (o8 (r5 k0 s0 v vt vf)):=by rw [g.fr.old p (by omega) (by omega),O]
  have K:l.drop i=l[i]::l.drop (i+1):=Xl r;rw [K,OD];by_cases h500:500<s.1;have h5:¬ (s.1:Int)<=500:=by omega
  obtain⟨t,U⟩:=s;simp only [C8] at D h5 h500;refine⟨iV (i:Int),.bool false,x8,M,?_,g,?_⟩;have W:¬ t<=500:=by omega
  rw [l8];simp [IX,e,D,f,r,w,h5,W];rw [if_pos h500];simpa [C8] using D;have pr:∀i,i<m.nx->i<p->M.get i=m.get i:=λi hi hq=>g.fr.old i hi (by omega);obtain⟨af,o1,a1,a2,a3,a4,a5⟩:=(gM.mono V g.fr.nx pr (S':=λi=>i<p) λ_ _ h=>h).slice.at u;have z:=H6.get h2 i r u;have ae:=z.row;have I:=a4 0 4 (by omega) (by omega);rw [q9,Xb (by omega),Y3] at I;have ac:=dN l i r;have F:bF M (λ_=>True) l[i] rows[i]:=bF.mono g.fr.nx pr (λ_ _ _=>trivial) _ _ z;generalize hX:l[i]=X at *;generalize hR:rows[i]=R at *;obtain⟨m2,g2,E2⟩:=J M R X hM Z F (by omega);have hb:=Rn X (d+1) (by omega);have a0:(rE (d+1) X).1<=15000∧(rE (d+1) X).2<=50:=⟨by have:=hb.2.2.1;omega,by have:=hb.2.2.2;omega⟩;generalize hB:rE (d+1) X=B at *;obtain⟨G,H⟩:=B;obtain⟨t,U⟩:=s;simp only at a0 h500 Q S;have o:=g.nx E2;have E3:=H7 E2.ok [o8 (C8 (G,H))];have A:=o.nx E3;have Y:=A.set (o8 (C8 (t+G,max U (H+1))));obtain⟨a8,c',x8',M',gg,q1,q2⟩:=ih (i+1) (by omega) (t+G,max U (H+1)) tt (.ptr m2.nx 0) _ N Y (G8 A.ok _ A.Dp rfl) (by simp only;omega) (by simp only;omega) (by omega);refine⟨a8,c',x8',M',?_,q1,?_⟩;obtain⟨y1,y2,y3,y4,y5,y6⟩:=qw E2.ok o.zY;have P:m2.get (p+2)=some (o8 (C8 (t,U))):=(E2.old _ g.Dp).trans D;have a6:(ext m2 [o8 (C8 (G,H))]).get (p+2)=some (o8 (C8 (t,U))):=by rw [U6 E2.ok _ o.Dp,P]
  have so:=λ(β:Type) (l:List Q6) (off:Nat) (vs:List d9) (k:Mem->Option β)=>zX (β:=β) E2.ok o.Dp o.lim l off vs k;have a7:(t:Int)<=500:=by omega
  have T:t<=500:=by omega
  have L:¬ (20:Int)<(d:Int):=by omega
  have C:¬ 20<d:=by omega
  have w1:jA ((d:Int)+1)=(d:Int)+1:=M0 (by omega) (by omega);have w2:jA ((H:Int)+1)=(H:Int)+1:=M0 (by omega) (by omega);have w3:jA ((t:Int)+(G:Int))=(t:Int)+(G:Int):=M0 (by omega) (by omega);have q:=λx y ls env a b hx hy=>Dq (x:=x) (y:=y) (ls:=ls) (env:=env) (a:=a) (b:=b) hx hy;have cv:=V.slice.cells;simp only [C8,show ((d+1:Nat):Int)=(d:Int)+1 from rfl] at *;rw [l8,← gg];simp [IX,I5,J5,y1,y2,y3,y4,y5,y6,e,D,f,r,w,a7,T,L,C,a1,I,g2,P,a6,so,w1,w2,w3,q,Qh,J7 (i:=i) (by omega)];rw [if_neg h500];exact q2
theorem ZQ (fu:Nat)(G:20000<=fu):∀r n d:Nat,1<=d->d<=21->21-d<=r->ZO KW (n+r+1) fu d:=by
 intro r;induction r with
 | zero=>
  intro n d u L T m K e f w h M;obtain rfl:d=21:=by omega
  obtain⟨l,o,q,a⟩:=e;obtain⟨v,y,rfl,s,t⟩:=h;have c:=H6.len t;have b:=s.slice.len;rw [c] at b;have z:=s.slice.cells;have A:=s.slice.r9;obtain⟨fu,rfl⟩:∃k,fu=k+1:=⟨fu-1,by omega⟩;match a,t with
  | [],t=>refine⟨ext m [o8 (r4 l o q v),o8 (C8 (1,1)),o8 (C8 (1,1))],?_,H7 f _⟩;rw [enter (sf:=f116) rfl rfl];simp [f116,vC,l8,P5 f w,r9,b,z,A,rE,pX,C8]
  | e::a,t=>
   refine⟨ext m [o8 (r4 l o q v),o8 (C8 (501,21)),o8 (C8 (1,1))],?_,H7 f _⟩;have j:(0:Int)<((a.length:Int)+1):=by omega
   rw [enter (sf:=f116) rfl rfl];simp [f116,vC,l8,P5 f w,r9,b,z,A,j,rE,pX,C8]
 | succ r ih=>
  intro n d u L T;by_cases hz:21-d<=r;have:=ih (n+1) d u L hz
  rwa [show n+1+r+1=n+(r+1)+1 from by omega] at this
  intro m K e f w h M;obtain⟨l,o,q,a⟩:=e;obtain⟨v,y,rfl,s,t⟩:=h;have c:=H6.len t;have b:=s.slice.len;rw [c] at b;have z:=s.slice.cells;have A:=s.slice.r9;rw [oJ] at M;have S:=O0 a;have E:=H7 f [o8 (r4 l o q v),o8 (C8 (0,0)),o8 (C8 (1,1))];have R:At (m.nx+2) (ext m [o8 (r4 l o q v),o8 (C8 (0,0)),o8 (C8 (1,1))]) _:=At.start E.ok (by simp) (by rw [E.lim];omega);have D:=gM.mono (m':=ext m [o8 (r4 l o q v),o8 (C8 (0,0)),o8 (C8 (1,1))]) s E.nx (λi I _=>E.old i I) (S':=λi=>i<m.nx) λ_ h _=>h;have F:=H6.mono (S':=λi=>i<m.nx) E.nx (λi I _=>E.old i I) (λ_ h _=>h) _ _ t;obtain⟨Z,W,O,V,M',g,x,N⟩:=WR (n:=n+r+1) (p:=m.nx) u (by omega) G (ih n (d+1) (by omega) (by omega) (by omega)) E.ok (by simp) (by rw [E.lim];exact w) (by rw [u7 f];rfl) a D F (by omega) a.length 0 (by omega) (1,1) .undef .undef .undef (_) fu R (by rw [V9 f];rfl) (by simp) (by simp) (by omega);have P:A9 (λC m k=>vC (l7 KW fu (n+r+1)) fu none C m k) fu (Ya (.agg (r4 l o q v)) (iV 0) (.ptr m.nx 0) (.ptr (m.nx+2) 0) .undef (iV (d:Int)) .undef (.ptr (m.nx+1) 0) .undef) (ext m [o8 (r4 l o q v),o8 [iV 0,iV 0],o8 [iV 1,iV 1]]) []=_:=g;rw [q9] at N;have H:M'.get (m.nx+1)=some (o8 [iV 0,iV 0]):=by rw [x.fr.old _ (by simp) (by omega),V9 f];rfl
  have j:m.nx+1<M'.nx:=gI (by simp) x.fr.nx;have J:M'.lim<=m.nx+1:=by have:=x.fr.lim;rw [E.lim] at this;omega
  have U:=sB J;have Q:∀B,(M'.set (m.nx+1) B).get (m.nx+1)=some B:=λB=>G8 x.ok _ j rfl;refine⟨M'.set (m.nx+1) (o8 (C8 (rE d (.mk l o q a)))),?_,(x.ext E (by omega)).set j (by omega) _⟩;rw [rE];generalize pX d a (1,1)=r at *;obtain⟨X,Y⟩:=r;simp only [C8] at *;rw [show n+(r+1)+1=(n+r+1)+1 from by omega,enter (sf:=f116) rfl rfl];simp [f116,P5 f w,r9,z,A,P,H,N,U,Q]
theorem ZR (n fu d:Nat)(b:20000<=fu)(a:1<=d)(c:d<=21)(e:30<=n):ZO KW n fu d:=by
 have:=ZQ fu b 25 (n-26) d a c (by omega)
 rwa [show n-26+25+1=n from by omega] at this
def C36 (K:Known)(n fu d:Nat):Prop:=∀(m:Mem) (v:d9) (l:List aR),m.Ok->m.lim<=m.nx->R4 m (λ_=>True) l v->V8 l<=10000->
 ∃m',l7 K fu n (.func 36) [v,iV (d:Int)] m=some [⟨.agg (C8 (yw d l (0,0))),m'⟩]∧Ext m m'
theorem aoL {x y z:OF}{ls:List d9}{env:T d9}{a b c:Int}(e:x ls env=.int .i64 a)(f:y ls env=.int .i64 b)(g:z ls env=.int .i64 c):pMm true x [y,z] ls env=some (.int .i64 (max (max a b) c)):=by
 have d:∀a b:Int,bi (mM a b) b a=max a b:=λa b=>by rw [iT];by_cases h:a<b;rw [decide_eq_true h,T9];omega;rw [decide_eq_false h,R5];omega
 show ob (mm2 true (x ls env) (y ls env)) (λw=>ob (mm2 true w (z ls env)) some)=_;rw [e,f,g];show some (d9.int .i64 (bi (mM (bi (mM a b) b a) c) c (bi (mM a b) b a)))=_;rw [d,d]
theorem WS (d:Nat)(a:1<=d):20000*3^(21-d)<=69735688020000:=by
 have:=ahg (n:=3) (by omega) (show 21-d<=20 from by omega);have e:3^20=3486784401:=by decide
 omega
theorem adN {n fu d:Nat}(hn:30<=n)(Q:20000<=fu)(a0:1<=d)(hd:d<=21)(N:d<=20->C36 KW n fu (d+1)){m:Mem}(w:m.Ok)(V:m.lim<=m.nx){row:List d9}{e:aR}(h:lD m (λ_=>True) e row)(hp:stP e<=10000):
  ∃m',l7 KW fu (n+1) (.func 77) [.agg row,iV (d:Int)] m=some [⟨.agg (C8 (Qe d e)),m'⟩]∧Ext m m':=by
 obtain⟨K,L,a,t,f⟩:=e;obtain⟨v,s,r,re,rt,rf,rfl,D,P,I,a6,G,a1⟩:=h;rw [stP] at hp;have cv:=D.slice.cells;have ov:=D.slice.r9;have ct:=I.slice.cells;have ot:=I.slice.r9;have cf:=G.slice.cells;have of:=G.slice.r9;rw [Qe];by_cases h20:20<d;have J:(20:Int)<(d:Int):=by omega
 refine⟨ext m [o8 (r5 K L v s r),o8 (C8 (501,21)),o8 (C8 (1,1))],?_,H7 w _⟩;rw [if_pos h20,enter (sf:=f77) rfl rfl];simp [f77,P5 w V,r9,cv,ov,ct,ot,cf,of,J,h20,C8];have J:¬ (20:Int)<(d:Int):=by omega
 rw [if_neg h20];have a4:=H6.len P;have ab:=O0 a;have E:=H7 w [o8 (r5 K L v s r),o8 (C8 (0,0)),o8 (C8 (1,1))];have hA:At (m.nx+2) (ext m [o8 (r5 K L v s r),o8 (C8 (0,0)),o8 (C8 (1,1))]) _:=At.start E.ok (by simp) (by rw [E.lim];omega);have Y:=gM.mono (m':=ext m [o8 (r5 K L v s r),o8 (C8 (0,0)),o8 (C8 (1,1))]) D E.nx (λi H _=>E.old i H) (S':=λi=>i<m.nx) λ_ h _=>h;have Z:=H6.mono (S':=λi=>i<m.nx) E.nx (λi H _=>E.old i H) (λ_ h _=>h) _ _ P;obtain⟨xi,c',ae,M',g,W,q2⟩:=ZP (n:=n) (p:=m.nx) a0 (by omega) Q (ZR n fu (d+1) Q (by omega) (by omega) hn) E.ok (by simp) (by rw [E.lim];exact V) (by rw [u7 w];rfl) a Y Z (by omega) a.length 0 (by omega) (1,1) .undef .undef (_) fu hA (by rw [V9 w];rfl) (by simp) (by simp) (by omega);have g':A9 (λenv m k=>IX (l7 KW fu n) fu none env m k) fu (fF (.agg (r5 K L v s r)) (iV (d:Int)) ff (.ptr (m.nx+1) 0) (iV 0) (.ptr m.nx 0) (.ptr (m.nx+2) 0) .undef .undef .undef .undef) (ext m [o8 (r5 K L v s r),o8 [iV 0,iV 0],o8 [iV 1,iV 1]]) []=_:=g;rw [q9] at q2;have hE:=Qf a d 1 1 (by omega) (by omega) (by omega);have aa:(OD d a (1,1)).1<=20000∧(OD d a (1,1)).2<=100:=⟨by have:=hE.2.2.1 (by omega);omega,by have:=hE.2.2.2.1;omega⟩;generalize OD d a (1,1)=O at *;have EM:=W.ext E (by omega);have tr:∀M,Ext m M->∀(l:List aR) (v:d9) (j:List (List d9)),gM m (λ_=>True) 5 v j->I4 m (λ_=>True) l j->R4 M (λ_=>True) l v:=λM E l v j x1 x2=>R4.ext ⟨j,x1,x2⟩ E;have U:M'.lim<=M'.nx:=by rw [EM.lim];exact aA V EM.nx
 obtain⟨A,g2,E2⟩:=N (by omega) M' s t EM.ok U (tr M' EM t s rt I a6) (by omega);have ht:=yx t (d+1) 0 0 (by omega) (by omega) (by omega);have a8:=WS (d+1) (by omega);have ad:(yw (d+1) t (0,0)).1<=80000000000000∧(yw (d+1) t (0,0)).2<=100:=⟨by have:=ht.2.2.1 (by omega);omega,by have:=ht.2.2.2.1;omega⟩;generalize yw (d+1) t (0,0)=T at *;have E3:=H7 E2.ok [o8 (C8 T)];have EM3:=EM.trans (E2.trans E3);have R:A.lim<=A.nx:=by rw [E2.lim];exact aA U E2.nx
 have S:(ext A [o8 (C8 T)]).lim<=(ext A [o8 (C8 T)]).nx:=by rw [E3.lim];exact aA R E3.nx
 obtain⟨o,g4,E4⟩:=N (by omega) _ r f E3.ok S (tr _ EM3 f r rf G a1) (by omega);have hf:=yx f (d+1) 0 0 (by omega) (by omega) (by omega);have ac:(yw (d+1) f (0,0)).1<=80000000000000∧(yw (d+1) f (0,0)).2<=100:=⟨by have:=hf.2.2.1 (by omega);omega,by have:=hf.2.2.2.1;omega⟩;generalize yw (d+1) f (0,0)=F at *;have E5:=H7 E4.ok [o8 (C8 F)];have EM5:=EM3.trans (E4.trans E5);have a3:o.lim<=o.nx:=by rw [E4.lim];exact aA S E4.nx
 obtain⟨y1,y2,y3,y4,y5,y6⟩:=qw E2.ok R;obtain⟨z1,z2,z3,z4,z5,z6⟩:=qw E4.ok a3;have n1:m.nx+2<M'.nx:=gI (by simp) W.fr.nx;have n2:M'.nx<=A.nx:=E2.nx;have n4:A.nx<o.nx:=gI (by simp) E4.nx;have C:M'.get m.nx=some (o8 (r5 K L v s r)):=by rw [W.fr.old _ (by simp) (by omega),u7 w];rfl
 have X:M'.get (m.nx+1)=some (o8 [iV 0,iV 0]):=by rw [W.fr.old _ (by simp) (by omega),V9 w];rfl
 have up:∀i,i<M'.nx->(ext o [o8 (C8 F)]).get i=M'.get i:=λi H=>by rw [E5.old _ (by omega),E4.old _ (by simp;omega),E3.old _ (by omega),E2.old _ H]
 have a7:∀i,i<M'.nx->(ext A [o8 (C8 T)]).get i=M'.get i:=λi H=>by rw [E3.old _ (by omega),E2.old _ H]
 have u0:=(up m.nx (by omega)).trans C;have u1:=(up (m.nx+1) (by omega)).trans X;have u2:=(up (m.nx+2) (by omega)).trans q2;have v0:=(a7 m.nx (by omega)).trans C;have u9:(ext o [o8 (C8 F)]).get A.nx=some (o8 (C8 T)):=by rw [E5.old _ n4,E4.old _ (by simp),u7 E2.ok];rfl
 have u:m.nx+1<(ext o [o8 (C8 F)]).nx:=by simp;omega
 have a2:(ext o [o8 (C8 F)]).lim<=m.nx+1:=by rw [EM5.lim];omega
 have st:=sB a2;have gs:∀B,((ext o [o8 (C8 F)]).set (m.nx+1) B).get (m.nx+1)=some B:=λB=>G8 E5.ok _ u rfl;obtain⟨O1,O2⟩:=O;obtain⟨T1,T2⟩:=T;obtain⟨F1,F2⟩:=F;refine⟨(ext o [o8 (C8 (F1,F2))]).set (m.nx+1) (o8 (C8 (O1+T1+F1,max O2 (max (T2+1) (F2+1))))),?_,EM5.set u (by omega) _⟩;have q:=λx y z ls env a b c hx hy hz=>aoL (x:=x) (y:=y) (z:=z) (ls:=ls) (env:=env) (a:=a) (b:=b) (c:=c) hx hy hz;have w1:jA ((d:Int)+1)=(d:Int)+1:=M0 (by omega) (by omega);have w2:jA ((T2:Int)+1)=(T2:Int)+1:=M0 (by omega) (by omega);have w3:jA ((F2:Int)+1)=(F2:Int)+1:=M0 (by omega) (by omega);have w4:jA ((O1:Int)+(T1:Int))=(O1:Int)+(T1:Int):=M0 (by omega) (by omega);have w5:jA ((O1:Int)+(T1:Int)+(F1:Int))=(O1:Int)+(T1:Int)+(F1:Int):=M0 (by omega) (by omega);have a9:((max O2 (max (T2+1) (F2+1)):Nat):Int)=max (max (O2:Int) ((T2:Int)+1)) ((F2:Int)+1):=by omega
 have a5:∀a b c:Int,max (max a b) c=max a (max b c):=λa b c=>by omega
 simp only [C8,show ((d+1:Nat):Int)=(d:Int)+1 from rfl] at *;rw [enter (sf:=f77) rfl rfl];simp [f77,P5 w V,r9,cv,ov,ct,ot,cf,of,J,h20,g',y1,y2,y3,y4,y5,y6,z1,z2,z3,z4,z5,z6,C,u0,u1,u2,u9,v0,g2,g4,st,gs,w1,w2,w3,w4,w5,q,Qh,a5]
theorem ZT {n fu d:Nat}(hn:30<=n)(A:1<=d)(hd:d<=21)(W:20000<=fu)(Q:d<=20->C36 KW n fu (d+1)){m:Mem}{p:Nat}(hm:m.Ok)(hp:p+1<m.nx)(hl:m.lim<=p){v:d9}{rows:List (List d9)}(l:List aR)(h1:gM m (λi=>i<p) 5 v rows)(h2:I4 m (λi=>i<p) l rows)(aa:V8 l<=10000):
  ∀(j i:Nat),i+j=l.length->∀(s:Nat×Nat) (c x5:d9) (M:Mem) (N:Nat),At (p+1) m M->M.get (p+1)=some (o8 (C8 s))->s.1<=80000000000000->s.2<=1000->j+1<=N->
  ∃xi c' x5' M',A9 (λenv m k=>IQ (l7 KW fu (n+1)) fu none env m k) N (XZ (iV (i:Int)) v (.ptr (p+1) 0) c (iV (d:Int)) x5 (.ptr p 0)) M [] =
   some [⟨.exit 0,(XZ xi v (.ptr (p+1) 0) c' (iV (d:Int)) x5' (.ptr p 0)),M',[],none⟩]∧At (p+1) m M'∧M'.get (p+1)=some (o8 (C8 (yw d (l.drop i) s))):=by
 have D:=I4.len h2;have e:=h1.slice.len;rw [D] at e;have a8:=V5 l;intro j;induction j with
 | zero=>
  intro i Z s c x5 M N r C J K hN;obtain⟨N,rfl⟩:∃k,N=k+1:=⟨N-1,by omega⟩;obtain rfl:i=l.length:=by omega
  refine⟨iV (l.length:Int),.bool false,x5,M,?_,r,?_⟩;rw [l8];simp [IQ,e];rw [abx,yw,C]
 | succ j ih=>
  intro i Z s c x5 M N r C J K hN;obtain⟨N,rfl⟩:∃k,N=k+1:=⟨N-1,by omega⟩;have g:i<l.length:=by omega
  have t:i<rows.length:=by omega
  have u:(i:Int)<(l.length:Int):=by omega
  have hM:=r.ok;have U:=r.zY;have H:l.drop i=l[i]::l.drop (i+1):=Xl g;rw [H,yw];by_cases h500:500<s.1;obtain⟨o,O⟩:=s;simp only [C8] at C h500;refine⟨iV (i:Int),.bool false,x5,M,?_,r,?_⟩;have S:¬ o<=500:=by omega
  have h5:¬ (o:Int)<=500:=by omega
  rw [l8];simp [IQ,C,e,g,u,h5,S];rw [if_pos h500];simpa [C8] using C;have pr:∀i,i<m.nx->i<p->M.get i=m.get i:=λi Z hq=>r.fr.old i Z (by omega);obtain⟨ac,o1,a1,a2,a3,a4,a5⟩:=(gM.mono h1 r.fr.nx pr (S':=λi=>i<p) λ_ _ h=>h).slice.at t;have w:=I4.get h2 i g t;have ab:=w.row;have G:=a4 0 5 (by omega) (by omega);rw [q9,Xb (by omega),Y3] at G;have a9:=kF l i g;have E:lD M (λ_=>True) l[i] rows[i]:=lD.mono r.fr.nx pr (λ_ _ _=>trivial) _ _ w;generalize hX:l[i]=X at *;generalize hR:rows[i]=R at *;obtain⟨m2,g2,E2⟩:=adN hn W A hd Q hM U E (by omega);have hb:=WK X d A hd;have a7:=WS d A;have V:(Qe d X).1<=70000000000000∧(Qe d X).2<=100:=⟨by have:=hb.2.2.1;omega,by have:=hb.2.2.2;omega⟩;generalize hB:Qe d X=B at *;obtain⟨F,P⟩:=B;obtain⟨o,O⟩:=s;simp only at V h500 J K;have f:=r.nx E2;have E3:=H7 E2.ok [o8 (C8 (F,P))];have z:=f.nx E3;have T:=z.set (o8 (C8 (o+F,max O P)));obtain⟨a6,c',x5',M',gg,q1,q2⟩:=ih (i+1) (by omega) (o+F,max O P) tt (.ptr m2.nx 0) _ N T (G8 z.ok _ z.Dp rfl) (by simp only;omega) (by simp only;omega) (by omega);refine⟨a6,c',x5',M',?_,q1,?_⟩;obtain⟨y1,y2,y3,y4,y5,y6⟩:=qw E2.ok f.zY;have I:m2.get (p+1)=some (o8 (C8 (o,O))):=(E2.old _ r.Dp).trans C;have Y:(ext m2 [o8 (C8 (F,P))]).get (p+1)=some (o8 (C8 (o,O))):=by rw [U6 E2.ok _ f.Dp,I]
  have so:=λ(β:Type) (l:List Q6) (off:Nat) (vs:List d9) (k:Mem->Option β)=>zX (β:=β) E2.ok f.Dp f.lim l off vs k;have a0:(o:Int)<=500:=by omega
  have L:o<=500:=by omega
  have w3:jA ((o:Int)+(F:Int))=(o:Int)+(F:Int):=M0 (by omega) (by omega);have q:=λx y ls env a b hx hy=>Dq (x:=x) (y:=y) (ls:=ls) (env:=env) (a:=a) (b:=b) hx hy;simp only [C8] at *;rw [l8,← gg];simp [IQ,I5,J5,y1,y2,y3,y4,y5,y6,C,e,g,u,a0,L,a1,G,g2,I,Y,so,w3,q,Qh,J7 (i:=i) (by omega)];rw [if_neg h500];exact q2
theorem Ob (fu:Nat)(s:20000<=fu)(n d:Nat)(J:30<=n)(q:1<=d)(I:d<=21)(o:d<=20->C36 KW n fu (d+1)):C36 KW (n+2) fu d:=by
 intro m v a e x h K;obtain⟨z,D,F⟩:=h;have H:=V5 a;have E:=H7 e [o8 (C8 (0,0)),o8 (C8 (0,0))];have G:At (m.nx+1) (ext m [o8 (C8 (0,0)),o8 (C8 (0,0))]) _:=At.start E.ok (by simp) (by rw [E.lim];omega);have j:=gM.mono (m':=ext m [o8 (C8 (0,0)),o8 (C8 (0,0))]) D E.nx (λi u _=>E.old i u) (S':=λi=>i<m.nx) λ_ h _=>h;have l:=I4.mono (S':=λi=>i<m.nx) E.nx (λi u _=>E.old i u) (λ_ h _=>h) _ _ F;obtain⟨Q,N,M,M',g,c,y⟩:=ZT (n:=n) (p:=m.nx) J q I s o E.ok (by simp) (by rw [E.lim];exact x) a j l K a.length 0 (by omega) (0,0) .undef .undef (_) fu G (by rw [V9 e];rfl) (by simp) (by simp) (by omega);have A:A9 (λf m k=>IQ (l7 KW fu (n+1)) fu none f m k) fu (XZ (iV 0) v (.ptr (m.nx+1) 0) .undef (iV (d:Int)) .undef (.ptr m.nx 0)) (ext m [o8 [iV 0,iV 0],o8 [iV 0,iV 0]]) []=_:=g;rw [q9] at y;have t:M'.get m.nx=some (o8 [iV 0,iV 0]):=by rw [c.fr.old _ (by simp) (by omega),u7 e];rfl
 have b:m.nx<M'.nx:=gI (by simp) c.fr.nx;have w:M'.lim<=m.nx:=by have:=c.fr.lim;rw [E.lim] at this;omega
 have L:=sB w;have C:∀B,(M'.set m.nx B).get m.nx=some B:=λB=>G8 c.ok _ b rfl;refine⟨M'.set m.nx (o8 (C8 (yw d a (0,0)))),?_,(c.ext E (by omega)).set b (by omega) _⟩;generalize yw d a (0,0)=r at *;obtain⟨O,P⟩:=r;simp only [C8] at *;rw [enter (sf:=f36) rfl rfl];simp [f36,P5 e x,r9,A,t,y,L,C]
theorem adO (fu:Nat)(b:20000<=fu):∀r n d:Nat,30<=n->1<=d->d<=21->21-d<=r->C36 KW (n+2*r+2) fu d:=by
 intro r;induction r with
 | zero=>intro n d e a c f;exact Ob fu b n d e a c (λh=>by omega)
 | succ r ih=>
  intro n d e a c f;have:=Ob fu b (n+2*r+2) d (by omega) a c (λh=>ih n (d+1) e (by omega) (by omega) (by omega))
  rwa [show n+2*r+2+2=n+2*(r+1)+2 from by omega] at this
theorem adP (n fu:Nat)(a:20000<=fu)(b:100<=n):C36 KW n fu 1:=by
 have:=adO fu a 20 (n-42) 1 (by omega) (by omega) (by omega) (by omega)
 rwa [show n-42+2*20+2=n from by omega] at this
theorem WT {m:Mem}(x:m.Ok)(u:m.lim<=m.nx){v:d9}{l:List aR}(h:R4 m (λ_=>True) l v)(hp:V8 l<=10000)(n fu:Nat)(f:20000<=fu):
  ∃m',l7 KW fu (n+101) (.func 16) [v] m=some [⟨.tuple [.int .i64 (lF l).1,.int .i64 (lF l).2],m'⟩]∧Ext m m':=by
 obtain⟨j,w,E1⟩:=adP (n+100) fu f (by omega) m v l x u h hp;have y:=yx l 1 0 0 (by omega) (by omega) (by omega);rw [← TJ l];generalize yw 1 l (0,0)=r at *;obtain⟨d,e⟩:=r;have b:=E1.ok;have g:j.lim<=j.nx:=by rw [E1.lim];exact aA u E1.nx
 obtain⟨k,o,p,q,s,t⟩:=qw b g;refine⟨ext j [o8 (C8 (d,e))],?_,E1.trans (H7 b _)⟩;have a:l7 KW fu (n+100) (.func 36) [v,iV 1] m=_:=w;rw [enter (sf:=f16) rfl rfl];simp only [C8] at *;by_cases h1:500<d;have c:decide ((500:Int)<(d:Int))=true:=decide_eq_true (by omega);simp [f16,I5,J5,k,o,p,q,s,t,a,c,h1];have c:decide ((500:Int)<(d:Int))=false:=decide_eq_false (by omega);by_cases h2:20<e;have i:decide ((20:Int)<(e:Int))=true:=decide_eq_true (by omega);simp [f16,I5,J5,k,o,p,q,s,t,a,c,i,h1,h2];have i:decide ((20:Int)<(e:Int))=false:=decide_eq_false (by omega);simp [f16,I5,J5,k,o,p,q,s,t,a,c,i,h1,h2]
theorem kG:∀(l:List Ex) (i:Nat) (h:i<l.length),qx l[i]<=ah l
 | e::l,0,h=>by simp [ah];omega
 | e::l,i+1,h=>by have:=kG l i (by simpa using h);simp [ah];omega
theorem oK:∀(l:List aR) (i:Nat) (h:i<l.length),vE l[i]<=aZ l
 | e::l,0,h=>by simp [aZ];omega
 | e::l,i+1,h=>by have:=oK l i (by simpa using h);simp [aZ];omega
end
end Go.Proofs.YteecnooaopfkeaaGreatDoor.TT
