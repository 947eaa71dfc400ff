/- Counting and comparing statements, walked; conditions: the memory holds what the arguments say. -/
import Derived.Test.YtfddpcckppibjaaGreatDoorPB4
import GoSem.Core.Utf8
import Derived.Lib.AtoiAll
import Derived.Lib.ItoaNum
set_option linter.all false
namespace Go.Proofs.YtfddpcckppibjaaGreatDoor.TT
open Go Go.AM
noncomputable section
abbrev By:=List UInt8
def Cy (b:UInt8):Bool:=decide (97<=b.toNat)&&decide (b.toNat<=122)
def Km (b:UInt8):Bool:=decide (48<=b.toNat)&&decide (b.toNat<=57)
def OC (b:UInt8):Bool:=Cy b||Km b
def NG (p:UInt8->Bool):By->Nat
 | []=>0
 | b::s=>if p b then NG p s+1 else 0
def ajc (s:By):Nat:=s.foldl (λn b=>10*n+(b.toNat-48)) 0
def ajd (s:By):Bool:=decide (s=[60,61])||decide (s=[62,61])||decide (s=[61,61])||decide (s=[33,61])
def ones:By:=[123,125,40,41,44,59,61,43,45,42,47,37,60,62]
def ap0 (s:By):Option (Nat×Nat):=match s with
 | []=>none
 | b :: _=>
  if Cy b then (if NG OC s<=16 then some (1,NG OC s) else none)
  else if Km b then (if (b=48∧1<NG Km s)∨9007199254740992<ajc (s.take (NG Km s)) then none else some (2,NG Km s))
  else if ajd (s.take 2) then some (3,2)
  else if ones.contains b then some (3,1) else none
abbrev Tok:=Nat×By
def aap:Nat->Nat->By->Sum Nat (List Tok)
 | 0,_,_=>.inr []
 | _+1,_,[]=>.inr []
 | n+1,i,b::t=>
  if b=32∨b=10 then aap n (i+1) t
  else if b=35 then aap n (i+NG (λc=>c != 10) (b::t)) ((b::t).drop (NG (λc=>c != 10) (b::t)))
  else match ap0 (b::t) with
   | none=>.inl i
   | some (k,l)=>match aap n (i+l) ((b::t).drop l) with
    | .inl j=>.inl j
    | .inr ts=>.inr ((k,(b::t).take l)::ts)
def aje (i:Nat)(s:By):Sum Nat (List Tok):=aap s.length i s
theorem Iw (s:By)(i:Nat)(h:i<s.length):((s[i]).toNat<128∧Utf8.decode ⟨s.toArray⟩ i=((s[i]).toNat,1))∨
  (128<=(s[i]).toNat∧128<=(Utf8.decode ⟨s.toArray⟩ i).1∧(Utf8.decode ⟨s.toArray⟩ i).1<2147483648∧1<=(Utf8.decode ⟨s.toArray⟩ i).2∧i+(Utf8.decode ⟨s.toArray⟩ i).2<=s.length∧
   ∀j (hj:j<s.length),i<=j->j<i+(Utf8.decode ⟨s.toArray⟩ i).2->128<=(s[j]).toNat):=by
 have g:∀k (d:i+k<s.length),(ByteArray.get! ⟨s.toArray⟩ (i+k)).toNat=(s[i+k]).toNat:=λk d=>by show ((s.toArray)[i+k]!).toNat=_;rw [getElem!_pos s.toArray (i+k) (by simpa using d)];simp
 have n:=g 0 (by omega);simp only [Y6] at n;have c:∀k,(decide (i+k<ByteArray.size ⟨s.toArray⟩)&&(ByteArray.get! ⟨s.toArray⟩ (i+k)).toNat / 64==2)=true->∃d:i+k<s.length,(s[i+k]).toNat / 64=2:=λk d=>by
  simp only [q8,decide_eq_true_eq,beq_iff_eq] at d;have a:i+k<s.length:=by simpa [ByteArray.size] using d.1
  exact⟨a,by rw [← g k a];exact d.2⟩
 have u:=UInt8.toNat_lt s[i];unfold Utf8.decode;simp only [Y6,n];by_cases h0:(s[i]).toNat<128;left;exact⟨h0,by rw [if_pos h0]⟩;right;rw [if_neg h0];have l:∀j (hj:j<s.length),i<=j->j<i+1->128<=(s[j]).toNat:=λj hj a b=>by
  obtain rfl:j=i:=by omega
  omega
 have f:∀{p:Nat×Nat},p=(Utf8.runeError,1)->(128<=p.1∧p.1<2147483648∧1<=p.2∧i+p.2<=s.length∧∀j (hj:j<s.length),i<=j->j<i+p.2->128<=(s[j]).toNat):=λh=>by subst h;exact⟨by decide,by decide,by decide,by show i+1<=_;omega,l⟩
 refine⟨by omega,?_⟩;split;rename_i a;rw [q8] at a;obtain⟨o,m⟩:=c 1 a.2;split;rename_i b;refine⟨b,?_,(by show 1<=2;omega),by show i+2<=_;omega,λj hj q e=>?_⟩;show _ + _<2147483648;omega;have:j=i∨j=i+1:=by simp only at e;omega
 rcases this with rfl | rfl;omega;omega;exact f rfl;split;rename_i a;rw [q8,q8] at a;obtain⟨o,m⟩:=c 1 a.1.2;obtain⟨t,r⟩:=c 2 a.2;split;rename_i b;rw [q8,decide_eq_true_eq] at b;refine⟨aP (by decide) b.1,?_,(by show 1<=3;omega),by show i+3<=_;omega,λj hj q e=>?_⟩;show _ + _ + _<2147483648;omega;have:j=i∨j=i+1∨j=i+2:=by simp only at e;omega
 rcases this with rfl | rfl | rfl<;>omega
 exact f rfl;split;rename_i a;rw [q8,q8,q8] at a;obtain⟨o,m⟩:=c 1 a.1.1.2;obtain⟨t,r⟩:=c 2 a.1.2;obtain⟨w,v⟩:=c 3 a.2;split;rename_i b;rw [q8,decide_eq_true_eq] at b;refine⟨aP (by decide) b.1,?_,(by show 1<=4;omega),by show i+4<=_;omega,λj hj q e=>?_⟩;show _ + _ + _ + _<2147483648;omega;have:j=i∨j=i+1∨j=i+2∨j=i+3:=by simp only at e;omega
 rcases this with rfl | rfl | rfl | rfl<;>omega
 exact f rfl;exact f rfl
abbrev nS:d9:=.nilSlice
abbrev iV (a:Int):d9:=.int .i64 a
abbrev r4 (a b:Int)(c:List UInt8)(d:d9):List d9:=[.int .i64 a,.int .i64 b,.str c,d]
abbrev r5 (a:Int)(b:List UInt8)(c d e:d9):List d9:=[.int .i64 a,.str b,c,d,e]
abbrev r6 (a b:Int)(c:List UInt8)(d:d9)(e:Int)(f:Bool):List d9:=[.int .i64 a,.int .i64 b,.str c,d,.int .i64 e,.bool f]
abbrev r7 (a:Int)(b:List UInt8)(c d e:d9)(f:Int)(g:Bool):List d9:=[.int .i64 a,.str b,c,d,e,.int .i64 f,.bool g]
abbrev r3 (a:d9)(b:Int)(c:Bool):List d9:=[a,.int .i64 b,.bool c]
attribute [simp] nS iV r3 r4 r5 r6 r7 lY bW tZ adB ZQ Ww PZ TG gZ fP
attribute [simp] I J S U Z A V tt ff tN zaw zbT zeJ zfm
abbrev nV5 (a0 a1 a2 a3 a4:d9):T d9:=(.nd (.nd (.nd .e a3 .e) a1 .e) a0 (.nd (.nd .e a4 .e) a2 .e))
abbrev nV6 (a0 a1 a2 a3 a4 a5:d9):T d9:=(.nd (.nd (.nd .e a3 .e) a1 (.nd .e a5 .e)) a0 (.nd (.nd .e a4 .e) a2 .e))
abbrev nV7 (a0 a1 a2 a3 a4 a5 a6:d9):T d9:=(.nd (.nd (.nd .e a3 .e) a1 (.nd .e a5 .e)) a0 (.nd (.nd .e a4 .e) a2 (.nd .e a6 .e)))
abbrev pJ (a0 a1 a2 a3 a4 a5 a6 a7:d9):T d9:=(.nd (.nd (.nd (.nd .e a7 .e) a3 .e) a1 (.nd .e a5 .e)) a0 (.nd (.nd .e a4 .e) a2 (.nd .e a6 .e)))
abbrev nV9 (a0 a1 a2 a3 a4 a5 a6 a7 a8:d9):T d9:=(.nd (.nd (.nd (.nd .e a7 .e) a3 .e) a1 (.nd .e a5 .e)) a0 (.nd (.nd (.nd .e a8 .e) a4 .e) a2 (.nd .e a6 .e)))
abbrev yw (a0 a1 a2 a3 a4 a5 a6 a7 a8 a9:d9):T d9:=(.nd (.nd (.nd (.nd .e a7 .e) a3 .e) a1 (.nd (.nd .e a9 .e) a5 .e)) a0 (.nd (.nd (.nd .e a8 .e) a4 .e) a2 (.nd .e a6 .e)))
abbrev Cz (a0 a1 a2 a3 a4 a5 a6 a7 a8 a9 a10:d9):T d9:=(.nd (.nd (.nd (.nd .e a7 .e) a3 .e) a1 (.nd (.nd .e a9 .e) a5 .e)) a0 (.nd (.nd (.nd .e a8 .e) a4 .e) a2 (.nd (.nd .e a10 .e) a6 .e)))
abbrev Qk (a0 a1 a2 a3 a4 a5 a6 a7 a8 a9 a10 a11 a12:d9):T d9:=(.nd (.nd (.nd (.nd .e a7 .e) a3 (.nd .e a11 .e)) a1 (.nd (.nd .e a9 .e) a5 .e)) a0 (.nd (.nd (.nd .e a8 .e) a4 (.nd .e a12 .e)) a2 (.nd (.nd .e a10 .e) a6 .e)))
abbrev Kn (a0 a1 a2 a3 a4 a5 a6 a7 a8 a9 a10 a11 a12 a13 a14 a15:d9):T d9:=(.nd (.nd (.nd (.nd (.nd .e a15 .e) a7 .e) a3 (.nd .e a11 .e)) a1 (.nd (.nd .e a9 .e) a5 (.nd .e a13 .e))) a0 (.nd (.nd (.nd .e a8 .e) a4 (.nd .e a12 .e)) a2 (.nd (.nd .e a10 .e) a6 (.nd .e a14 .e))))
abbrev aaq (a0 a1 a2 a3 a4 a5 a6 a7 a8 a9 a10 a11 a12 a13 a14 a15 a16 a17:d9):T d9:=(.nd (.nd (.nd (.nd (.nd .e a15 .e) a7 .e) a3 (.nd .e a11 .e)) a1 (.nd (.nd (.nd .e a17 .e) a9 .e) a5 (.nd .e a13 .e))) a0 (.nd (.nd (.nd (.nd .e a16 .e) a8 .e) a4 (.nd .e a12 .e)) a2 (.nd (.nd .e a10 .e) a6 (.nd .e a14 .e))))
abbrev nL (a0 a1 a2 a3 a4 a5 a6 a7 a8 a9 a10 a11 a12 a13 a14 a15 a16 a17 a18 a19:d9):T d9:=(.nd (.nd (.nd (.nd (.nd .e a15 .e) a7 .e) a3 (.nd (.nd .e a19 .e) a11 .e)) a1 (.nd (.nd (.nd .e a17 .e) a9 .e) a5 (.nd .e a13 .e))) a0 (.nd (.nd (.nd (.nd .e a16 .e) a8 .e) a4 (.nd .e a12 .e)) a2 (.nd (.nd (.nd .e a18 .e) a10 .e) a6 (.nd .e a14 .e))))
attribute [simp] nV5 nV6 nV7 pJ nV9 yw Cz Qk Kn aaq nL
theorem aX {m:Mem}(a:m.Ok)(d:m.lim<=m.nx):(∀(m:Mem) b,m.new b=ext m [b])∧(∀(m:Mem) l l',ext (ext m l) l'=ext m (l++l'))∧(∀l,(ext m l).get m.nx=l[0]?)∧(∀l c,(ext m l).get (m.nx+c)=l[c]?)∧
  (∀(β:Type) l c off vs (k:Mem->Option β),storeAt (ext m l) (m.nx+c) off vs k=bi (K5 vs) (ob (Go.AM.uW l[c]? off vs) λb=>k (ext m (l.set c b))) none)∧
  (∀(β:Type) l off vs (k:Mem->Option β),storeAt (ext m l) m.nx off vs k=bi (K5 vs) (ob (Go.AM.uW l[0]? off vs) λb=>k (ext m (l.set 0 b))) none)∧
  (∀(l:List O6) c b,c<l.length->(ext m l).set (m.nx+c) b=ext m (l.set c b))∧∀(l:List O6) b,0<l.length->(ext m l).set m.nx b=ext m (l.set 0 b):=
 ⟨H8,I8,A8 a,O4 a,λβ l c off vs k=>nV a d l c off vs k,λβ l off vs k=>ig a d l off vs k,jL a,kI a⟩
theorem dU {α:Type}:(∀a b:List α,(a++b).length=a.length+b.length)∧(∀(x:α) l,(x::l).length=l.length+1)∧([]:List α).length=0:=⟨λ_ _=>Z8,λ_ _=>rfl,rfl⟩
theorem iI {α:Type}:(∀a b c:List α,a++b++c=a++(b++c))∧(∀(x:α) l l',x::l++l'=x::(l++l'))∧∀l:List α,[]++l=l:=⟨afw,λ_ _ _=>rfl,λ_=>rfl⟩
section
variable {m m':Mem}{S:Nat->Prop}(E:Ext m m')
include E
theorem rsE {rs:Nat}{v:d9}{l:List (List d9)}(h:jf m S rs v l):jf m' S rs v l:=h.mono E.nx (λi a _=>E.old i a) (λ_ _ h=>h)
theorem Gs {e:Ex}{r:List d9}(h:au m S e r):au m' S e r:=au.mono E.nx (λi a _=>E.old i a) (λ_ _ h=>h) _ _ h
theorem Gt {e:List Ex}{r:List (List d9)}(h:D9 m S e r):D9 m' S e r:=D9.mono E.nx (λi a _=>E.old i a) (λ_ _ h=>h) _ _ h
theorem aep {e:ak}{r:List d9}(h:mD m S e r):mD m' S e r:=mD.mono E.nx (λi a _=>E.old i a) (λ_ _ h=>h) _ _ h
theorem CB {e:List ak}{r:List (List d9)}(h:H7 m S e r):H7 m' S e r:=H7.mono E.nx (λi a _=>E.old i a) (λ_ _ h=>h) _ _ h
end
theorem sB {m:Mem}{id:Nat}(h:m.lim<=id)(β:Type)(off:Nat)(a:List d9)(k:Mem->Option β):storeAt m id off a k=bi (K5 a) (ob (uW (m.get id) off a) λb=>k (m.set id b)) none:=iq h off a k
theorem KV {m:Mem}{rs:Nat}{v:d9}{l:List (List d9)}(h:fQ m rs v l)(β:Type)(p:d9->β)(q:β):bg v p q=q:=h.mq p q
def Ry (f:Nat):Bool:=Nat.beq f 7||(Nat.beq f 96||(Nat.beq f 98||(Nat.beq f 183||Nat.beq f 230)))
def ap1 (f:FuncId):Option T9:=(fns f).map λsf=>{sf with pure:=Ry f}
def aer (f:FuncId)(args:List d9)(bs:List NB):Option Br:=match bs with
 | []=>match args with
  | [.str s,.str [c]]=>if f=98 then some ⟨.bool (ZU c s),[]⟩ else none
  | [.int .i64 n]=>if f=230∧0<=n∧n<=9223372036854775807 then some ⟨.str (Lib.itoa n),[]⟩ else none
  | _=>none
 | _=>none
def Fj (f:FuncId)(args:List d9)(bs:List NB):Option Br:=if f=7 then sumOf [⟨7,[],[],.bool true,[]⟩] f args bs else if f=183 then WB 187 387 183 13 f args bs else aer f args bs
def ap2 (f:FuncId)(args:List d9)(m:Mem):eu:=bi (Nat.beq f 86) (vW args m) (bi (Nat.beq f 240) (nJ args m) none)
def KW:Known:=⟨ap1,base,Fj,ap2⟩
theorem enter {n fu:Nat}{f:FuncId}{sf:T9}{c:List d9}{m:Mem}(h:fns f=some sf)(e:Ry f=false)(d:Nat.beq f 240=false:=by rfl)(b:Nat.beq f 86=false:=by rfl):
  j6 KW fu (n+1) (.func f) c m=lY (j6 KW fu n) (sP KW (j6 KW fu n) fu) fu sf c m:=by
 rw [dJ];have h:KW.fns f=some {sf with pure:=false}:=by show (fns f).map _=_;rw [h,e];rfl
 have a:KW.eff f c m=none:=by show bi (Nat.beq f 86) _ (bi (Nat.beq f 240) _ none)=none;rw [d,b];rfl
 simp only [h,a,K4,O9];rfl
theorem Ko {n fu:Nat}{f:FuncId}{sf:T9}{c:List d9}{m:Mem}(h:fns f=some sf)(e:Ry f=true)(d:Nat.beq f 240=false:=by rfl)(b:Nat.beq f 86=false:=by rfl):
  j6 KW fu (n+1) (.func f) c m=iW KW (j6 KW fu n) fu f {sf with pure:=true} c m:=by
 rw [dJ];have h:KW.fns f=some {sf with pure:=true}:=by show (fns f).map _=_;rw [h,e];rfl
 have a:KW.eff f c m=none:=by show bi (Nat.beq f 86) _ (bi (Nat.beq f 240) _ none)=none;rw [d,b];rfl
 simp only [h,a,K4];rfl
theorem NH {lo:Nat}{l:List d9}(m:Mem)(b:tF lo l=[])(c:∀r,kP r l=some l):ji lo l m=some ⟨[],l,[]⟩:=by show ob (reach m lo (99999+1) (tF lo l) []) _=_;rw [b,EZ];show ob (kP (wD lo []) l) (λd=>ob (some []) λa=>some (⟨[],d,a⟩:CO))=_;rw [c];rfl
theorem Kq {n fu:Nat}{a:List d9}{m:Mem}{o:List VM}(h:vW a m=some o):j6 KW fu (n+1) (.func 86) a m=some o:=by rw [dJ];have b:KW.eff 86 a m=some o:=h;show (Option.rec _ (λl=>some l) (KW.eff 86 a m):eu)=_;rw [b]
theorem Ue (n fu:Nat)(m:Mem):j6 KW fu (n+1) (.func 7) [] m=some [⟨.bool true,m⟩]:=by
 obtain⟨sf,b⟩:∃sf,fns 7=some sf:=⟨_,rfl⟩;rw [Ko (sf:=sf) b rfl,Da (K:=KW) (c:=⟨[],[],[]⟩) (a:=⟨.bool true,[]⟩) (NH m rfl λ_=>rfl)
  (by show Fj 7 [] []=_;rw [Fj,if_pos rfl];rfl)]
 rfl
theorem aar (i:Int)(h0:0<=i)(d:i<=9223372036854775807)(n fu:Nat)(m:Mem):j6 KW fu (n+1) (.func 230) [.int .i64 i] m=some [⟨.str (Lib.itoa i),m⟩]:=by
 obtain⟨sf,b⟩:∃sf,fns 230=some sf:=⟨_,rfl⟩;rw [Ko (sf:=sf) b rfl,Da (K:=KW) (c:=⟨[],[.int .i64 i],[]⟩) (a:=⟨.str (Lib.itoa i),[]⟩) (Fa m rfl λ_=>rfl)
  (by show Fj 230 [.int .i64 i] []=_;rw [Fj,if_neg (by decide),if_neg (by decide)];show (if 230=230∧0<=i∧i<=9223372036854775807 then _ else _)=_;rw [if_pos ⟨rfl,h0,d⟩])]
 rfl
theorem aas {lo:Nat}(f:13<=lo){m:Mem}{v:d9}{l:List (List UInt8)}(h:tL lo m v l)(d:List UInt8)(i:l.length<1000000)(g:(bK d l).length<1000000)(n fu:Nat):
  j6 KW fu (n+1) (.func 183) [v,.str d] m=some [⟨.str (bK d l),m⟩]:=by
 obtain⟨sf,e⟩:∃sf,fns 183=some sf:=⟨_,rfl⟩;rcases ahI h (b:=base.nx) f d with⟨rfl,hc⟩ | ⟨id,hne,hc⟩;rw [Ko (sf:=sf) e rfl,Da (K:=KW) (c:=⟨[],[.nilSlice,.str d],[]⟩) (a:=⟨.str [],[]⟩) hc
  (by show Fj 183 [.nilSlice,.str d] []=_;rw [Fj,if_neg (by decide),if_pos rfl];rfl)]
 rfl;rw [Ko (sf:=sf) e rfl,Da (K:=KW) (c:=⟨[id],[.sliceU base.nx 0 l.length 1,.str d],[.cells 1 (l.map λw=>[.str w])]⟩) (a:=⟨.str (bK d l),[]⟩) hc
  (by show Fj 183 [.sliceU base.nx 0 l.length 1,.str d] [.cells 1 (l.map λw=>[d9.str w])]=_;rw [Fj,if_neg (by decide),if_pos rfl];exact TU rfl rfl i g)]
 rfl
set_option maxRecDepth 100000
set_option maxHeartbeats 4000000
theorem Xn (b:UInt8)(n fu:Nat)(m:Mem):j6 KW fu (n+1) (.func 93) [.int .u8 (b.toNat:Nat)] m=some [⟨.bool (Cy b),m⟩]:=by
 rw [enter (sf:=f93) rfl rfl];have a:decide ((97:Int)<=((b.toNat:Nat):Int))=decide (97<=b.toNat):=by rw [adX];simp only [decide_eq_true_eq];omega
 have c:decide (((b.toNat:Nat):Int)<=(122:Int))=decide (b.toNat<=122):=by rw [adX];simp only [decide_eq_true_eq];omega
 by_cases h:97<=b.toNat<;>simp [f93,Cy,a,c,h]
theorem aes (b:UInt8)(n fu:Nat)(m:Mem):j6 KW fu (n+1) (.func 95) [.int .u8 (b.toNat:Nat)] m=some [⟨.bool (Km b),m⟩]:=by
 rw [enter (sf:=f95) rfl rfl];have a:decide ((48:Int)<=((b.toNat:Nat):Int))=decide (48<=b.toNat):=by rw [adX];simp only [decide_eq_true_eq];omega
 have c:decide (((b.toNat:Nat):Int)<=(57:Int))=decide (b.toNat<=57):=by rw [adX];simp only [decide_eq_true_eq];omega
 by_cases h:48<=b.toNat<;>simp [f95,Km,a,c,h]
theorem aeu {m:Mem}(b:m.Ok)(l:List d9):nK (m.new (.cells 1 l.length (T.ofList (l.map ([·]))))) (.slice m.nx 0 l.length l.length) l:=
 .inr ⟨m.nx,0,.inl ⟨_,rfl,J2 _⟩,by simp,.inr ⟨l.length,T.ofList (l.map ([·])),by rw [Mem.J8 b,if_pos rfl],by simp,λi a=>by rw [aad,T.aC];simp [a]⟩⟩
set_option maxHeartbeats 8000000
@[simp] theorem ap3:nk .nilIface .nilIface=some true:=_root_.id rfl
@[simp] theorem ap4 (t:TypeId)(v:d9):nk (.iface t v) .nilIface=some false:=_root_.id rfl
theorem CF {m:Mem}(a:m.Ok)(d:m.lim<=m.nx):(∀l:List O6,(ext m l).get m.nx=l[0]?)∧(∀(l:List O6) (c:Nat),(ext m l).get (m.nx+c)=l[c]?)∧
  (∀(β:Type) (l:List O6) (c off:Nat) (vs:List d9) (k:Mem->Option β),storeAt (ext m l) (m.nx+c) off vs k=bi (K5 vs) (ob (uW l[c]? off vs) λb=>k (ext m (l.set c b))) none)∧
  (∀(β:Type) (l:List O6) (off:Nat) (vs:List d9) (k:Mem->Option β),storeAt (ext m l) m.nx off vs k=bi (K5 vs) (ob (uW l[0]? off vs) λb=>k (ext m (l.set 0 b))) none)∧
  (∀(l:List O6) (c:Nat) (b:O6),c<l.length->(ext m l).set (m.nx+c) b=ext m (l.set c b))∧∀(l:List O6) (b:O6),0<l.length->(ext m l).set m.nx b=ext m (l.set 0 b):=
 ⟨A8 a,O4 a,λ_=>nV a d,λ_=>ig a d,jL a,kI a⟩
def Brd (s:By)(pos nx:Nat):Prop:=nx<=s.length∧(nx=s.length∨(∀i (h:i<s.length),pos<=i->i<nx->(s[i]).toNat<128)∨∃h:nx<s.length,s[nx]=10)
theorem Brd.mono {s:By}{b a nx:Nat}(h:Brd s b nx)(hp:b<=a):Brd s a nx:=
 ⟨h.1,h.2.imp id (Or.imp (λh i d e c=>h i d (by omega) c) id)⟩
theorem Brd.step {s:By}{a nx:Nat}(h:Brd s a nx)(b:a<s.length)(hp:a<nx):a+(Utf8.decode ⟨s.toArray⟩ a).2<=nx:=by rcases Iw s a b with⟨h1,h2⟩ | ⟨h1,h2,h3,h4,h5,h6⟩;rw [h2];exact hp;rcases h.2 with h7 | h7 | ⟨h7,h8⟩;omega;have:=h7 a b (J2 _) hp;omega;refine adK λc=>?_;have:=h6 nx h7 (by omega) (by omega);rw [h8] at this;exact absurd this (by decide)
def acE (t:Tok):List d9:=[iV (t.1:Nat),.str t.2]
def vD (l:List Tok):List (List d9):=l.map acE
theorem Xo {m:Mem}{s:By}{p a:Nat}(h:m.get p=some (.siter s a))(d:m.lim<=p)(hp:a<s.length)(it:OF)(cf:D7)(ls:List d9)(env:T d9)(c:it ls env=.ptr p 0):
  Dv it cf ls env m=some [⟨.tuple [.bool true,iV (a:Nat),.int .i32 ((Utf8.decode ⟨s.toArray⟩ a).1:Nat)],m.set p (.siter s (a+(Utf8.decode ⟨s.toArray⟩ a).2))⟩]:=by
 show gT (it ls env) (λid b=>bi (Nat.beq b 0) (bi (Nat.blt id m.lim) none (Jd (m.get id) λs a=>bi (Nat.blt a (len' s)) _ _)) none)=_;rw [c,Rk,show Nat.beq 0 0=true from rfl,R4,show Nat.blt p m.lim=false from ab1.2 λe=>by have:=X8.mp e;omega,O9,h];show bi (Nat.blt a (len' s)) _ _=_;rw [I5,show Nat.blt a s.length=true from X8.mpr hp];rfl
theorem Iy {m:Mem}{s:By}{p:Nat}(h:m.get p=some (.siter s s.length))(d:m.lim<=p)(it:OF)(cf:D7)(ls:List d9)(env:T d9)(c:it ls env=.ptr p 0):
  Dv it cf ls env m=some [⟨.tuple [.bool false],m⟩]:=by
 show gT (it ls env) (λid a=>bi (Nat.beq a 0) (bi (Nat.blt id m.lim) none (Jd (m.get id) λs b=>bi (Nat.blt b (len' s)) _ _)) none)=_;rw [c,Rk,show Nat.beq 0 0=true from rfl,R4,show Nat.blt p m.lim=false from ab1.2 λe=>by have:=X8.mp e;omega,O9,h];show bi (Nat.blt s.length (len' s)) _ _=_;rw [I5,show Nat.blt s.length s.length=false from ab1.2 λe=>by have:=X8.mp e;omega];rfl
def Ql (s:By)(p:Nat)(acc:List Tok)(M:Mem)(r:Option (List Out))(l:Sum Nat (List Tok)):Prop:=
 (∃(ts:List Tok) (e3 e4 e5 e6 e7 e8 e9 e10 e11 out e13:d9) (M':Mem),l=.inr ts∧r=some [⟨.exit 0,(.nd (.nd (.nd (.nd (.nd .e (iV 0) .e) e7 .e) e3 (.nd .e e11 .e)) ff (.nd (.nd .e e9 .e) e5 (.nd .e e13 .e))) (.str s) (.nd (.nd (.nd (.nd .e (iV 0) .e) e8 .e) e4 (.nd .e out .e)) (.ptr p 0) (.nd (.nd .e e10 .e) e6 (.nd .e nS .e)))),M',[],none⟩]∧Fr (p+1) p M M'∧gB (p+1) 2 M' out (vD (acc++ts))∧(acc++ts).length<=s.length)∨
 (∃(j:Nat) (e3 e4 e5 e6 e7 e8 e9 e10 e11 out e13:d9) (M':Mem),l=.inl j∧r=some [⟨.ret,(.nd (.nd (.nd (.nd (.nd .e (iV 7) .e) e7 .e) e3 (.nd .e e11 .e)) ff (.nd (.nd .e e9 .e) e5 (.nd .e e13 .e))) (.str s) (.nd (.nd (.nd (.nd .e (iV (j:Int)) .e) e8 .e) e4 (.nd .e out .e)) (.ptr p 0) (.nd (.nd .e e10 .e) e6 (.nd .e nS .e)))),M',[],none⟩]∧Fr (p+1) p M M')
theorem Ql.fr {s:By}{p:Nat}{a:List Tok}{M b:Mem}{r:Option (List Out)}{l:Sum Nat (List Tok)}(h:Ql s p a b r l)(c:Fr (p+1) p M b):Ql s p a M r l:=by rcases h with⟨ts,e3,e4,e5,e6,e7,e8,e9,e10,e11,out,e13,M',h1,h2,h3,h4⟩ | ⟨j,e3,e4,e5,e6,e7,e8,e9,e10,e11,out,e13,M',h1,h2,h3⟩;exact .inl ⟨ts,e3,e4,e5,e6,e7,e8,e9,e10,e11,out,e13,M',h1,h2,c.trans h3,h4⟩;exact .inr ⟨j,e3,e4,e5,e6,e7,e8,e9,e10,e11,out,e13,M',h1,h2,c.trans h3⟩
def Kr (s:By)(p:Nat)(acc:List Tok)(M:Mem)(r:Option (List Out))(l:Sum Nat (List Tok)):Prop:=
 (∃(ts:List Tok) (e3 e4 e5 e6 e7 e8 e9 out e11:d9) (M':Mem),l=.inr ts∧r=some [⟨.exit 0,(.nd (.nd (.nd (.nd .e e7 .e) e3 (.nd .e e11 .e)) ff (.nd (.nd .e e9 .e) e5 .e)) (.str s) (.nd (.nd (.nd .e e8 .e) e4 .e) (.ptr p 0) (.nd (.nd .e out .e) e6 .e))),M',[],none⟩]∧Fr (p+1) p M M'∧M'.get p=some (o7 [nS,iV 0,iV 0])∧gB (p+1) 2 M' out (vD (acc++ts))∧(acc++ts).length<=s.length)∨
 (∃(j:Nat) (e3 e4 e5 e6 e7 e8 e9 out e11:d9) (M':Mem),l=.inl j∧r=some [⟨.ret,(.nd (.nd (.nd (.nd .e e7 .e) e3 (.nd .e e11 .e)) ff (.nd (.nd .e e9 .e) e5 .e)) (.str s) (.nd (.nd (.nd .e e8 .e) e4 .e) (.ptr p 0) (.nd (.nd .e out .e) e6 .e))),M',[],none⟩]∧Fr (p+1) p M M'∧M'.get p=some (o7 [nS,iV 7,iV (j:Int)]))
theorem Kr.fr {s:By}{p:Nat}{a:List Tok}{M b:Mem}{r:Option (List Out)}{l:Sum Nat (List Tok)}(h:Kr s p a b r l)(c:Fr (p+1) p M b):Kr s p a M r l:=by rcases h with⟨ts,e3,e4,e5,e6,e7,e8,e9,out,e11,M',h1,h2,h3,h4⟩ | ⟨j,e3,e4,e5,e6,e7,e8,e9,out,e11,M',h1,h2,h3,h4⟩;exact .inl ⟨ts,e3,e4,e5,e6,e7,e8,e9,out,e11,M',h1,h2,c.trans h3,h4⟩;exact .inr ⟨j,e3,e4,e5,e6,e7,e8,e9,out,e11,M',h1,h2,c.trans h3,h4⟩
@[simp] theorem ajg (k:IntKind)(n:Int):w9 (.int k n)=true:=_root_.id rfl
@[simp] theorem ajh (s:By):w9 (.str s)=true:=_root_.id rfl
@[simp] theorem agH (b:Bool):w9 (.bool b)=true:=_root_.id rfl
def Ku (m m':Mem)(s:By)(v:d9)(e a:Int):Prop:=match aje 0 s with
 | .inr ts=>gB m.nx 2 m' v (vD ts)∧ts.length<=s.length∧e=0∧a=-1
 | .inl j=>v=nS∧e=7∧a=(j:Int)
@[simp] theorem ap5:FN .s=eqStr:=_root_.id rfl
theorem Ku.same {m m1 l g:Mem}{s:By}{i k:d9}{e c f d:Int}(a:Ku m m1 s i e c)(b:Ku l g s k f d):e=f∧c=d∧∃ts:List Tok,ts.length<=s.length∧fQ m1 2 i (vD ts)∧fQ g 2 k (vD ts):=by
 unfold Ku at a b;cases h:aje 0 s with
 | inr ts=>rw [h] at a b;obtain⟨n,o,rfl,rfl⟩:=a;obtain⟨p,q,rfl,rfl⟩:=b;exact⟨rfl,rfl,ts,o,n.slice,p.slice⟩
 | inl j=>rw [h] at a b;obtain⟨rfl,rfl,rfl⟩:=a;obtain⟨rfl,rfl,rfl⟩:=b;exact⟨rfl,rfl,[],by simp,.inl ⟨rfl,rfl⟩,.inl ⟨rfl,rfl⟩⟩
mutual
def iJ:Ex->Nat
 | .mk _ _ _ a=>1+R5 a
def R5:List Ex->Nat
 | []=>0
 | e::l=>iJ e+R5 l
end
mutual
def gQ:Ex->Nat
 | .mk _ _ _ a=>1+U5 a
def U5:List Ex->Nat
 | []=>0
 | e::l=>max (gQ e) (U5 l)
end
mutual
def stP:ak->Nat
 | .mk _ _ e t f=>1+R5 e+Z0 t+Z0 f
def Z0:List ak->Nat
 | []=>0
 | s::l=>stP s+Z0 l
end
mutual
def wh:ak->Nat
 | .mk _ _ e t f=>1+max (U5 e) (max (aR t) (aR f))
def aR:List ak->Nat
 | []=>0
 | s::l=>max (wh s) (aR l)
end
def yA (l:List ak):Int×Int:=if Z0 l<=500∧aR l<=20 then (Z0 l,aR l) else (-1,-1)
def comb (a b:Nat×Nat):Nat×Nat:=(a.1+b.1,max a.2 b.2)
def gK (s:Nat×Nat)(l:List (Nat×Nat)):Nat×Nat:=l.foldl comb s
mutual
def bE:Nat->Ex->Nat×Nat
 | d,.mk _ _ _ a=>gK (1,1) (zR d a)
def zR:Nat->List Ex->List (Nat×Nat)
 | _,[]=>[]
 | 0,_ :: _=>[(0,21)]
 | d+1,e::l=>((bE d e).1,(bE d e).2+1)::zR (d+1) l
end
mutual
def bSt:Nat->ak->Nat×Nat
 | d,.mk _ _ e t f=>comb (comb (gK (1,1) (zR (d-1) e)) ((bS (d-1) t).1,(bS (d-1) t).2+1)) ((bS (d-1) f).1,(bS (d-1) f).2+1)
def bS:Nat->List ak->Nat×Nat
 | _,[]=>(0,0)
 | 0,_ :: _=>(0,21)
 | d+1,s::l=>comb (bSt (d+1) s) (bS (d+1) l)
end
theorem Iz:∀(l:List (Nat×Nat)) (s:Nat×Nat),(gK s l).1=s.1+(l.map (·.1)).sum∧s.2<=(gK s l).2∧(∀x∈l,x.2<=(gK s l).2)∧∀B,s.2<=B->(∀x∈l,x.2<=B)->(gK s l).2<=B
 | [],s=>⟨by simp [gK],J2 _,by simp,λB h _=>h⟩
 | x::l,s=>by
  obtain⟨h1,h2,h3,h4⟩:=Iz l (comb s x);have e:gK s (x::l)=gK (comb s x) l:=rfl;rw [e];refine⟨?_,?_,?_,?_⟩;rw [h1];simp [comb];omega;have:s.2<=(comb s x).2:=by simp [comb];omega
  omega;intro y hy;rcases Z4.1 hy with rfl | hy;have:y.2<=(comb s y).2:=by simp [comb];omega
  omega;exact h3 y hy;intro B hs hB;refine h4 B ?_ λy hy=>hB y (by simp [hy]);have:=hB x (by simp);simp [comb];omega
structure WOk (d:Nat)(a:List Ex)(w:List (Nat×Nat)):Prop where
 ex:U5 a<=d->(w.map (·.1)).sum=R5 a∧(∀x∈w,x.2<=U5 a+1)∧(a≠[]->∃x∈w,x.2=U5 a+1)
 big:d<U5 a->∃x∈w,21<=x.2
 le:(w.map (·.1)).sum<=R5 a
 lv:∀x∈w,x.2<=21+d
 len:w.length<=a.length
theorem zS {d:Nat}{a:List Ex}{w:List (Nat×Nat)}(h:WOk d a w):(U5 a<=d->gK (1,1) w=(1+R5 a,1+U5 a))∧(d<U5 a->21<=(gK (1,1) w).2)∧(gK (1,1) w).1<=1+R5 a∧(gK (1,1) w).2<=21+d:=by
 obtain⟨f,p,g,i⟩:=Iz w (1,1);refine⟨λb=>?_,λb=>?_,?_,?_⟩;obtain⟨j,k,l⟩:=h.ex b;have m:(gK (1,1) w).2=1+U5 a:=by by_cases ha:a=[];subst ha;have:w=[]:=aa2.1 (Nat.le_zero.1 (by simpa using h.len));subst this;rfl;obtain⟨x,c,e⟩:=l ha;have n:=g x c;have o:=i (U5 a+1) (by simp) k;omega
 rw [adY];exact⟨by rw [f,j],m⟩;obtain⟨x,c,e⟩:=h.big b;have:=g x c;omega;rw [f];have:=h.le;simp;omega
 exact i _ (by simp;omega) h.lv
mutual
theorem Rz:∀(e:Ex) (d:Nat),(gQ e<=d+1->bE d e=(iJ e,gQ e))∧(d+1<gQ e->21<=(bE d e).2)∧(bE d e).1<=iJ e∧(bE d e).2<=21+d
 | .mk k n s a,d=>by have h:=zS (vE a d);rw [bE,gQ,iJ];exact⟨λhd=>h.1 (by omega),λhd=>h.2.1 (by omega),h.2.2.1,h.2.2.2⟩
theorem vE:∀(a:List Ex) (d:Nat),WOk d a (zR d a)
 | [],d=>⟨λ_=>⟨rfl,by simp [zR],λh=>absurd rfl h⟩,λh=>by simp [U5] at h,by simp [zR,R5],by simp [zR],by simp [zR]⟩
 | e::l,0=>by
  have he:1<=gQ e:=by cases e;simp [gQ]
  refine⟨λh=>?_,λ_=>⟨(0,21),by simp [zR],by simp⟩,by simp [zR],by simp [zR],by simp [zR]⟩;rw [U5] at h;omega
 | e::l,d+1=>by
  obtain⟨h1,h2,h3,h4⟩:=Rz e d;have H:=vE l (d+1);refine⟨λh=>?_,λh=>?_,?_,?_,?_⟩;rw [U5] at h;obtain⟨a1,a2,a3⟩:=H.ex (by omega);have e1:=h1 (by omega);rw [zR,U5,R5,e1];refine⟨by simp [a1],λx hx=>?_,λ_=>?_⟩;rcases Z4.1 hx with rfl | hx;simp;omega;have:=a2 x hx;omega;by_cases hc:U5 l<=gQ e;exact⟨(iJ e,gQ e+1),by simp,by simp;omega⟩;have hl:l≠[]:=by rintro rfl;simp [U5] at hc
  obtain⟨x,hx,hx2⟩:=a3 hl;exact⟨x,by simp [hx],by omega⟩;rw [U5] at h;rw [zR];by_cases hc:d+1<gQ e;have:=h2 hc;exact⟨((bE d e).1,(bE d e).2+1),by simp,by simp;omega⟩;obtain⟨x,hx,hx2⟩:=H.big (by omega);exact⟨x,by simp [hx],hx2⟩;rw [zR,R5];have:=H.le;simp;omega
  rw [zR];intro x hx;rcases Z4.1 hx with rfl | hx;simp;omega;exact H.lv x hx;rw [zR];have:=H.len;simpa using this
end
mutual
theorem aev:∀(s:ak) (d:Nat),(wh s<=d+1->bSt (d+1) s=(stP s,wh s))∧(d+1<wh s->21<=(bSt (d+1) s).2)∧(bSt (d+1) s).1<=stP s∧(bSt (d+1) s).2<=22+d
 | .mk k n e t f,d=>by obtain⟨e1,e2,e3,e4⟩:=zS (vE e d);obtain⟨t1,t2,t3,t4⟩:=IC t d;obtain⟨f1,f2,f700,f701⟩:=IC f d;rw [bSt,wh,stP];simp only [ahX];refine⟨λh=>?_,λh=>?_,?_,?_⟩;rw [e1 (by omega),t1 (by omega),f1 (by omega)];simp only [comb];rw [adY];exact⟨rfl,by simp only;omega⟩;simp only [comb];by_cases hc:d<U5 e;have:=e2 hc;omega;by_cases hc2:d<aR t;have:=t2 hc2;omega;have:=f2 (by omega);omega;simp only [comb];omega;simp only [comb];omega
theorem IC:∀(l:List ak) (d:Nat),(aR l<=d->bS d l=(Z0 l,aR l))∧(d<aR l->21<=(bS d l).2)∧(bS d l).1<=Z0 l∧(bS d l).2<=21+d
 | [],d=>⟨λ_=>by simp [bS,Z0,aR],λh=>by simp [aR] at h,by simp [bS],by simp [bS]⟩
 | s::l,0=>by
  have hs:1<=wh s:=by cases s;simp [wh]
  refine⟨λh=>?_,λ_=>by simp [bS],by simp [bS],by simp [bS]⟩;rw [aR] at h;omega
 | s::l,d+1=>by obtain⟨s1,s2,s3,s4⟩:=aev s d;obtain⟨l1,l2,l3,l4⟩:=IC l (d+1);rw [bS,aR,Z0];simp only [comb];refine⟨λh=>?_,λh=>?_,?_,?_⟩;rw [s1 (by omega),l1 (by omega)];by_cases hc:d+1<wh s;have:=s2 hc;omega;have:=l2 (by omega);omega;omega;omega
end
theorem Xp (l:List ak):(if 500<(bS 22 l).1∨20<(bS 22 l).2 then ((-1,-1):Int×Int) else (((bS 22 l).1:Int),((bS 22 l).2:Int)))=yA l:=by obtain⟨a,b,c,d⟩:=IC l 22;unfold yA;by_cases h:aR l<=22;rw [a h];by_cases h5:Z0 l<=500∧aR l<=20;rw [if_neg (by simp only;omega),if_pos h5];rw [if_pos (by simp only;omega),if_neg h5];rw [if_pos (.inr (by have:=b (by omega);omega)),if_neg (by omega)]
mutual
def rE:Nat->Ex->Nat×Nat
 | d,.mk _ _ _ a=>Ce d a (1,1)
def Ce:Nat->List Ex->Nat×Nat->Nat×Nat
 | _,[],o=>o
 | d,e::l,o=>if 500<o.1 then o else if 20<d then (501,21) else Ce d l (o.1+(rE (d+1) e).1,max o.2 ((rE (d+1) e).2+1))
end
def YQ:Nat->List Ex->Nat×Nat->Nat×Nat
 | _,[],o=>o
 | d,e::l,o=>if 500<o.1 then o else YQ d l (o.1+(rE (d+1) e).1,max o.2 ((rE (d+1) e).2+1))
mutual
def YR:Nat->ak->Nat×Nat
 | d,.mk _ _ e t f=>if 20<d then (501,21) else
  ((YQ d e (1,1)).1+(RA (d+1) t (0,0)).1+(RA (d+1) f (0,0)).1,max (YQ d e (1,1)).2 (max ((RA (d+1) t (0,0)).2+1) ((RA (d+1) f (0,0)).2+1)))
def RA:Nat->List ak->Nat×Nat->Nat×Nat
 | _,[],o=>o
 | d,s::l,o=>if 500<o.1 then o else RA d l (o.1+(YR d s).1,max o.2 (YR d s).2)
end
mutual
theorem acF:∀(e:Ex) (d:Nat),d<=21->(gQ e+d<=22∧iJ e<=500->rE d e=(iJ e,gQ e))∧(¬ (gQ e+d<=22∧iJ e<=500)->501<=(rE d e).1)∧(rE d e).1<=501+500*(21-d)∧(rE d e).2<=21+(21-d)
 | .mk k n s a,d,hd=>by obtain⟨h1,h2,h3,h4⟩:=NI a d 1 1 hd (by omega) (by omega);rw [rE,gQ,iJ];refine⟨λh=>?_,λh=>h2 (by omega),h3 (by omega),h4⟩;rw [h1 (by omega),adY];exact⟨rfl,by simp only;omega⟩
theorem NI:∀(a:List Ex) (d p l:Nat),d<=21->1<=l->l<=21+(21-d)->(U5 a+d<=21∧p+R5 a<=500->Ce d a (p,l)=(p+R5 a,max l (U5 a+1)))∧(¬ (U5 a+d<=21∧p+R5 a<=500)->501<=(Ce d a (p,l)).1)∧
  (p<=501+500*(21-d)->(Ce d a (p,l)).1<=501+500*(21-d))∧(Ce d a (p,l)).2<=21+(21-d)
 | [],d,p,l,hd,hl,hl2=>by rw [Ce,U5,R5];refine⟨λh=>?_,λh=>by simp only;omega,λh=>h,hl2⟩;rw [adY];exact⟨rfl,by simp only;omega⟩
 | e::a,d,p,l,hd,hl,hl2=>by
  have he:1<=gQ e∧1<=iJ e:=by cases e;simp [gQ,iJ]
  rw [Ce];by_cases hp:500<p;rw [if_pos hp];exact⟨λh=>by omega,λ_=>by simp only;omega,λh=>h,hl2⟩;rw [if_neg hp];by_cases h20:20<d;rw [if_pos h20,U5];exact⟨λh=>by omega,λ_=>by simp,λ_=>by simp only;omega,by simp only;omega⟩;rw [if_neg h20];obtain⟨e1,e2,e3,e4⟩:=acF e (d+1) (by omega);have hl3:max l ((rE (d+1) e).2+1)<=21+(21-d):=by omega
  obtain⟨a1,a2,a3,a4⟩:=NI a d (p+(rE (d+1) e).1) (max l ((rE (d+1) e).2+1)) hd (by omega) hl3;rw [U5,R5];refine⟨λh=>?_,λh=>?_,λh=>a3 (by omega),a4⟩;have x:=e1 (by omega);rw [x] at a1 ⊢;rw [a1 (by simp only;omega),adY];exact⟨by simp only;omega,by simp only;omega⟩;by_cases hc:gQ e+(d+1)<=22∧iJ e<=500;have x:=e1 hc;rw [x] at a2 ⊢;exact a2 (by simp only;omega);have x:=e2 hc;refine a2 ?_;omega
end
theorem Xq:∀(a:List Ex) (d p l:Nat),d<=20->1<=l->l<=21+(21-d)->(U5 a+d<=21∧p+R5 a<=500->YQ d a (p,l)=(p+R5 a,max l (U5 a+1)))∧(¬ (U5 a+d<=21∧p+R5 a<=500)->501<=(YQ d a (p,l)).1)∧
  (p<=501+500*(21-d)->(YQ d a (p,l)).1<=501+500*(21-d))∧(YQ d a (p,l)).2<=21+(21-d)∧1<=(YQ d a (p,l)).2
 | [],d,p,l,hd,hl,hl2=>by rw [YQ,U5,R5];refine⟨λh=>?_,λh=>by simp only;omega,λh=>h,hl2,hl⟩;rw [adY];exact⟨rfl,by simp only;omega⟩
 | e::a,d,p,l,hd,hl,hl2=>by rw [YQ];by_cases hp:500<p;rw [if_pos hp];exact⟨λh=>by omega,λ_=>by simp only;omega,λh=>h,hl2,hl⟩;rw [if_neg hp];obtain⟨e1,e2,e3,e4⟩:=acF e (d+1) (by omega);obtain⟨a1,a2,a3,a4,a5⟩:=Xq a d (p+(rE (d+1) e).1) (max l ((rE (d+1) e).2+1)) hd (by omega) (by omega);rw [U5,R5];refine⟨λh=>?_,λh=>?_,λh=>a3 (by omega),a4,a5⟩;have x:=e1 (by omega);rw [x] at a1 ⊢;rw [a1 (by simp only;omega),adY];exact⟨by simp only;omega,by simp only;omega⟩;by_cases hc:gQ e+(d+1)<=22∧iJ e<=500;have x:=e1 hc;rw [x] at a2 ⊢;exact a2 (by simp only;omega);have x:=e2 hc;exact a2 (by omega)
mutual
theorem aew:∀(s:ak) (d:Nat),1<=d->d<=21->(wh s+d<=21∧stP s<=500->YR d s=(stP s,wh s))∧(¬ (wh s+d<=21∧stP s<=500)->501<=(YR d s).1∨22<=(YR d s).2+d)∧(YR d s).1<=20000*3^(21-d)∧(YR d s).2+d<=64
 | .mk k n e t f,d,hd1,hd=>by
  rw [YR];by_cases h20:20<d;rw [if_pos h20,wh];refine⟨λh=>by omega,λ_=>by simp,?_,by simp only;omega⟩;have:=Nat.one_le_pow (21-d) 3 (by omega);simp only;omega;rw [if_neg h20];obtain⟨e1,e2,e3,e4,e5⟩:=Xq e d 1 1 (by omega) (by omega) (by omega);obtain⟨t1,t2,t3,t4⟩:=Qm t (d+1) 0 0 (by omega) (by omega) (by omega);obtain⟨f1,f2,f700,f701⟩:=Qm f (d+1) 0 0 (by omega) (by omega) (by omega);rw [wh,stP];refine⟨λh=>?_,λh=>?_,?_,?_⟩;rw [e1 (by omega),t1 (by omega),f1 (by omega),adY];exact⟨by simp only;omega,by simp only;omega⟩;by_cases hc:U5 e+d<=21∧1+R5 e<=500;by_cases hc2:aR t+(d+1)<=21∧0+Z0 t<=500;by_cases hc3:aR f+(d+1)<=21∧0+Z0 f<=500;rw [e1 hc,t1 hc2,f1 hc3];simp only;omega;have:=f2 hc3;simp only;omega;have:=t2 hc2;simp only;omega;have:=e2 hc;simp only;omega;have a1:=e3 (by omega);have a2:=t3 (by omega);have a3:=f700 (by omega);have hp:3^(21-d)=3*3^(21-(d+1)):=by rw [show 21-d=(21-(d+1))+1 from by omega,ai8];omega
  have:=Nat.one_le_pow (21-(d+1)) 3 (by omega);simp only;omega;simp only;omega
theorem Qm:∀(l:List ak) (d p v:Nat),1<=d->d<=21->v+d<=64->(aR l+d<=21∧p+Z0 l<=500->RA d l (p,v)=(p+Z0 l,max v (aR l)))∧(¬ (aR l+d<=21∧p+Z0 l<=500)->501<=(RA d l (p,v)).1∨22<=(RA d l (p,v)).2+d)∧
  (p<=500+20000*3^(21-d)->(RA d l (p,v)).1<=500+20000*3^(21-d))∧(RA d l (p,v)).2+d<=64∧p<=(RA d l (p,v)).1∧v<=(RA d l (p,v)).2
 | [],d,p,v,hd1,hd,hv=>by rw [RA,aR,Z0];refine⟨λh=>?_,λh=>by simp only;omega,λh=>h,hv,J2 _,J2 _⟩;rw [adY];exact⟨rfl,by simp only;omega⟩
 | s::l,d,p,v,hd1,hd,hv=>by
  have hs:1<=wh s∧1<=stP s:=by cases s;simp [wh,stP];omega
  rw [RA];by_cases hp:500<p;rw [if_pos hp];exact⟨λh=>by omega,λ_=>by simp only;omega,λh=>h,hv,J2 _,J2 _⟩;rw [if_neg hp];dsimp only at hp ⊢;obtain⟨s1,s2,s3,s4⟩:=aew s d hd1 hd;obtain⟨l1,l2,l3,l4,l5,l6⟩:=Qm l d (p+(YR d s).1) (max v (YR d s).2) hd1 hd (by omega);rw [aR,Z0];refine⟨λh=>?_,λh=>?_,λh=>l3 (by omega),l4,by omega,by omega⟩;have x:=s1 (by omega);rw [x] at l1 ⊢;rw [l1 (by simp only;omega),adY];exact⟨by simp only;omega,by simp only;omega⟩;by_cases hc:wh s+d<=21∧stP s<=500;have x:=s1 hc;rw [x] at l2 ⊢;exact l2 (by simp only;omega);have x:=s2 hc;rcases x with x | x;exact .inl (by omega);exact .inr (by omega)
end
def I7 (x:Nat×Nat):List d9:=[iV (x.1:Int),iV (x.2:Int)]
def iT (l:List (Nat×Nat)):List (List d9):=l.map I7
theorem yB (l:List (Nat×Nat)):(iT l).length=l.length:=by simp [iT]
def Small (l:List (Nat×Nat)):Prop:=l.length<=100000∧∀x∈l,x.1<=10000000000000∧x.2<=1000000
theorem Xr {β:Type}{m:Mem}(d:m.Ok){p:Nat}(hp:p<m.nx)(c:m.lim<=p)(l:List O6)(off:Nat)(a:List d9)(k:Mem->Option β):storeAt (ext m l) p off a k=bi (K5 a) (ob (uW (m.get p) off a) λb=>k ((ext m l).set p b)) none:=by rw [iq (by rw [Rn];exact c),aV d l hp]
structure At (p:Nat)(m M:Mem):Prop where
 lt:p<m.nx
 limp:m.lim<=p
 fr:Fr m.nx p m M
section
variable {p:Nat}{m M M':Mem}
theorem At.ok (h:At p m M):M.Ok:=h.fr.ok
theorem At.UJ (h:At p m M):p<M.nx:=gq h.lt h.fr.nx
theorem At.lim (h:At p m M):M.lim<=p:=by rw [h.fr.lim];exact h.limp
theorem At.NJ (h:At p m M):M.lim<=M.nx:=aP h.lim (afz h.UJ)
theorem At.start (b:m.Ok)(hp:p<m.nx)(a:m.lim<=p):At p m m:=⟨hp,a,Fr.refl b⟩
theorem At.nx (h:At p m M)(e:Ext M M'):At p m M':=⟨h.lt,h.limp,h.fr.trans (e.fr h.fr.nx)⟩
theorem At.set (h:At p m M)(b:O6):At p m (M.set p b):=
 ⟨h.lt,h.limp,h.fr.trans ⟨Mem.Ok.set h.ok h.UJ _,by simp,by simp,λi c a=>J6 h.ok _ h.UJ a⟩⟩
theorem At.ext {a:Mem}(h:At p m M)(e:Ext a m)(hp:a.nx<=p):Ext a M:=⟨h.ok,aP e.nx h.fr.nx,h.fr.lim.trans e.lim,λi b=>(h.fr.old i (gq b e.nx) (by omega)).trans (e.old i b)⟩
end
theorem aex (a b:Nat):((max a b:Nat):Int)=max (a:Int) b:=by omega
theorem aau {x y:OF}{ls:List d9}{env:T d9}{a b:Int}(c:x ls env=.int .i64 a)(d:y ls env=.int .i64 b):pMm true x [y] ls env=some (iV (max a b)):=by show ob (mm2 true (x ls env) (y ls env)) some=_;rw [c,d];show some (d9.int .i64 (bi (pO a b) b a))=_;rw [iX];by_cases h:a<b;rw [decide_eq_true h,R4,Int.max_def,if_pos (by omega)];rw [decide_eq_false h,O9,Int.max_def];split<;>first | rfl | (congr 2;omega)
theorem aav {m:Mem}{p:Nat}{v:d9}{a0 b0:Int}{cf:D7}{fu:Nat}(l:List (Nat×Nat))(hs:Small l)(V:∀M,At p m M->fQ M 2 v (iT l))(U:qD v (some (d9.int .i64 0)) (λ_ _ n _=>some (iV n)) (λ_ _ n _=>some (iV n))=some (.int .i64 l.length)):
  ∀(j i:Nat),i+j=l.length->∀(s:Nat×Nat) (c x:d9) (M:Mem) (N:Nat),At p m M->M.get p=some (o7 (I7 s))->s.1<=20000000000000*(i+1)->s.2<=1000000->j+1<=N->
  ∃c' x' M',I4 (λenv m k=>Ny cf fu none env m k) N (nV9 (.agg [iV a0,iV b0]) v (iV (i:Int)) (iV (l.length:Int)) c v (.ptr p 0) x (.ptr (p+1) 0)) M []=some [⟨.exit 0,(nV9 (.agg [iV a0,iV b0]) v (iV (l.length:Int)) (iV (l.length:Int)) c' v (.ptr p 0) x' (.ptr (p+1) 0)),M',[],none⟩]∧At p m M'∧M'.get p=some (o7 (I7 (gK s (l.drop i)))):=by
 have E:=U;have T:=hs.1;intro j;induction j with
 | zero=>
  intro i R s c x M N d w r t P;obtain⟨N,rfl⟩:∃k,N=k+1:=⟨N-1,by omega⟩;obtain rfl:i=l.length:=by omega
  refine⟨.bool false,x,M,?_,d,?_⟩;rw [p9];simp [Ny];rw [ac1];exact w
 | succ j ih=>
  intro i R s c x M N d w r t P;obtain⟨N,rfl⟩:∃k,N=k+1:=⟨N-1,by omega⟩;have e:i<l.length:=by omega
  have h:i<(iT l).length:=by rw [yB];exact e
  have g:=d.ok;have S:=d.NJ;have F:=d.UJ;have B:=d.lim;obtain⟨Y,o1,H,a2,a3,I,a5⟩:=(V M d).at h;have o:(iT l)[i]=I7 l[i]:=by simp [iT]
  have f:=I 0 2 (by omega) (by omega);rw [o] at f;have C:=hs.2 l[i] (aa3 e);have Q:l.drop i=l[i]::l.drop (i+1):=Y8 e;generalize hX:l[i]=X at *;obtain⟨u,D⟩:=X;obtain⟨z,G⟩:=s;simp only [Y6,I7,U9,ahS,ahU] at f w C r t;have Z:=λ(β:Type) (l:List O6) (off:Nat) (vs:List d9) (k:Mem->Option β)=>Xr (β:=β) g F B l off vs k;have O:=λ(l:List O6)=>aV g l F;have A:=(d.nx (G7 g [o7 [iV (u:Int),iV (D:Int)]])).set (o7 (I7 (comb (z,G) (u,D))));obtain⟨c',x',M',L,J,K⟩:=ih (i+1) (by omega) (comb (z,G) (u,D)) tt (.ptr M.nx 0) _ N A (J9 (d.nx (G7 g _)).ok _ (d.nx (G7 g _)).UJ rfl) (by simp [comb];omega) (by simp [comb];omega) (by omega);have q:=λx y ls env a b C W=>aau (x:=x) (y:=y) (ls:=ls) (env:=env) (a:=a) (b:=b) C W;have w1:mK ((z:Int)+(u:Int))=((z+u:Nat):Int):=by rw [O0 (by omega) (by omega)];rfl
  refine⟨c',x',M',?_,J,?_⟩;rw [p9,← L];simp [Ny,aX g S,Z,O,w,H,f,e,I7,comb,P9 (i:=i) (by omega),q,w1,aex];rw [Q];exact K
theorem Kv {m:Mem}(c:m.Ok)(p:m.lim<=m.nx){v:d9}(s:Nat×Nat)(l:List (Nat×Nat))(hs:Small l)(q:fQ m 2 v (iT l))(A:s.1<=20000000000000)(w:s.2<=1000000)(n fu:Nat)(e:l.length+1<=fu):
  ∃m',j6 KW fu (n+1) (.func 62) [.agg (I7 s),v] m=some [⟨.agg (I7 (gK s l)),m'⟩]∧Ext m m':=by
 have j:=q.len;rw [yB] at j;have E:=G7 c [o7 (I7 s),o7 [iV 0,iV 0]];have x:At m.nx (ext m [o7 (I7 s),o7 [iV 0,iV 0]]) _:=At.start E.ok (by simp) (by rw [E.lim];exact p);obtain⟨z,H,M',g,a,o⟩:=aav (cf:=j6 KW fu n) (fu:=fu) (a0:=(s.1:Int)) (b0:=(s.2:Int)) l hs (λM h=>q.ext (h.ext E (J2 _))) j l.length 0 (by omega) s .undef .undef (_) fu x (by rw [A8 c];rfl) (by omega) w e;have t:I4 (λd m k=>Ny (j6 KW fu n) fu none d m k) fu (nV9 (.agg [iV (s.1:Int),iV (s.2:Int)]) v (iV 0) (iV (l.length:Int)) .undef v (.ptr m.nx 0) .undef (.ptr (m.nx+1) 0)) (ext m [o7 (I7 s),o7 [iV 0,iV 0]]) []=_:=g;have f:M'.get (m.nx+1)=some (o7 [iV 0,iV 0]):=by rw [a.fr.old _ (by simp) (by omega),O4 c];rfl
 have b:m.nx+1<M'.nx:=gq (by simp) a.fr.nx;have i:M'.lim<=m.nx+1:=by have:=a.lim;omega
 have y:=sB i;have u:∀B,(M'.set (m.nx+1) B).get (m.nx+1)=some B:=λB=>J9 a.ok _ b rfl;have EM:=a.ext E (J2 _);refine⟨M'.set (m.nx+1) (o7 (I7 (gK s l))),?_,?_⟩;rw [U9] at o;rw [enter (sf:=f62) rfl rfl];generalize gK s l=r at *;obtain⟨C,D⟩:=r;obtain⟨F,G⟩:=s;simp only [I7] at *;simp [f62,aX c p,w9,j,t,o,f,y,u];exact EM.set b (by omega) _
theorem bs2 (z:List d9)(ps:List (Nat×Nat×OF))(ls:List d9)(env:T d9)(a:Nat)(h:z.length=2):U6 2 1 z ps ls env a=ob (lay ps ls env z) λcells=>if cells.length=2 then some (.slice a 0 1 1,some (o7 cells)) else none:=kJ 2 z ps ls env a h
theorem jg.ext {m m':Mem}{S:Nat->Prop}{a:List Ex}{v:d9}(h:jg m S a v)(e:Ext m m'):jg m' S a v:=by obtain⟨b,d,f⟩:=h;exact⟨b,d.mono e.nx (λi c _=>e.old i c) λ_ _ h=>h,D9.mono e.nx (λi c _=>e.old i c) (λ_ _ h=>h) a b f⟩
theorem RB:∀(l:List (Nat×Nat)) (x:Nat×Nat),x∈l->x.1<=(l.map (·.1)).sum
 | y::l,x,h=>by simp only [Z6,aen];rcases Z4.1 h with rfl | h;omega;have:=RB l x h;omega
theorem Q8:∀l:List Ex,l.length<=R5 l
 | []=>by simp
 | e::l=>by have:=Q8 l;have:1<=iJ e:=by {cases e;simp [iJ]};simp [R5];omega
theorem jh:∀(l:List Ex) (i:Nat) (h:i<l.length),iJ l[i]<=R5 l
 | e::l,0,h=>by simp [R5]
 | e::l,i+1,h=>by have:=jh l i (by simpa using h);simp [R5];omega
theorem NK (d:Nat)(a:List Ex)(c:d<=100)(h:R5 a<=10000):Small (zR d a):=by
 have w:=vE a d;refine⟨by have:=w.len;have:=Q8 a;omega,λx b=>⟨?_,?_⟩⟩;have:=RB _ x b;have:=w.le;omega
 have:=w.lv x b;omega
def C76 (K:Known)(n fu d:Nat):Prop:=∀(m:Mem) (v:d9) (a:List Ex),m.Ok->m.lim<=m.nx->jg m (λ_=>True) a v->R5 a<=10000->
 ∃out m',j6 K fu n (.func 63) [v,iV (d:Int)] m=some [⟨out,m'⟩]∧Ext m m'∧gB m.nx 2 m' out (iT (zR d a))
theorem Xt {n fu d:Nat}(D:d<=100)(F:20000<=fu)(j:C76 KW (n+1) fu d){m:Mem}(q:m.Ok)(o:m.lim<=m.nx){row:List d9}{e:Ex}(h:au m (λ_=>True) e row)(hp:iJ e<=10000):
  ∃m',j6 KW fu (n+2) (.func 28) [.agg row,iV (d:Int)] m=some [⟨.agg (I7 (bE d e)),m'⟩]∧Ext m m':=by
 obtain⟨k,s,u,a⟩:=e;obtain⟨v,f,rfl,i,A⟩:=h;rw [iJ] at hp;have C:=i.slice.w9;have l:=i.slice.cells;have E:=G7 q [o7 (r4 k s u v),o7 [iV 0,iV 0]];obtain⟨t,H,x,E1,O1⟩:=j (ext m [o7 (r4 k s u v),o7 [iV 0,iV 0]]) v a E.ok (by rw [E.lim];exact aP o E.nx) (jg.ext ⟨f,i,A⟩ E) (by omega);have w:=NK d a D (by omega);obtain⟨c,y,E2⟩:=Kv E1.ok (by rw [E1.lim,E.lim];exact aP o (aP E.nx E1.nx)) (1,1) (zR d a) w O1.slice (by simp) (by simp) n fu (by have:=w.1;have:=(vE a d).len;have:=Q8 a;omega);have g:j6 KW fu (n+1) (.func 62) [.agg [iV 1,iV 1],t] H=_:=y;have b:m.nx+1<c.nx:=gq (by simp) (aP E1.nx E2.nx);have p:c.lim<=m.nx+1:=by rw [E2.lim,E1.lim,E.lim];omega
 have J:=sB p;have G:c.get (m.nx+1)=some (o7 [iV 0,iV 0]):=by rw [E2.old _ (gq (by simp) E1.nx),E1.old _ (by simp),O4 q];rfl
 have z:∀B,(c.set (m.nx+1) B).get (m.nx+1)=some B:=λB=>J9 E2.ok _ b rfl;have I:=KV O1.slice;refine⟨c.set (m.nx+1) (o7 (I7 (bE d (.mk k s u a)))),?_,(E.trans (E1.trans E2)).set b (by omega) _⟩;rw [enter (sf:=f28) rfl rfl];rw [bE];generalize gK (1,1) (zR d a)=r at *;obtain⟨K,L⟩:=r;simp only [I7] at *;simp [f28,aX q o,w9,C,l,x,g,J,G,z,I]
theorem aaw {n fu d:Nat}(hd:d<=100)(H:20000<=fu)(C:C76 KW (n+1) fu d){m:Mem}(hm:m.Ok)(V:m.lim<=m.nx){v:d9}{rows:List (List d9)}(a:List Ex)(T:jf m (λ_=>True) 4 v rows)(U:D9 m (λ_=>True) a rows)(hp:R5 a<=10000):
  ∀(j i:Nat),i+j=a.length->∀(acc:List (Nat×Nat)) (c3 c6 out x8 x9:d9) (M:Mem) (N:Nat),Ext m M->gB m.nx 2 M out (iT acc)->acc.length<=i->j+1<=N->
  ∃c3' c6' out' x8' x9' M',I4 (λenv m k=>Fh (j6 KW fu (n+2)) fu none env m k) N (Cz v (iV (i:Int)) (iV (a.length:Int)) c3 v (.int .i64 ((d:Int)+1)) c6 out x8 x9 nS) M []=some [⟨.exit 0,(Cz v (iV (a.length:Int)) (iV (a.length:Int)) c3' v (.int .i64 ((d:Int)+1)) c6' out' x8' x9' nS),M',[],none⟩]∧
   Ext m M'∧gB m.nx 2 M' out' (iT (acc++zR (d+1) (a.drop i))):=by
 have q:=D9.len U;have z:=T.slice.len;rw [q] at z;have a0:=Q8 a;intro j;induction j with
 | zero=>
  intro i B acc c3 c6 out x8 x9 M N E O F hN;obtain⟨N,rfl⟩:∃k,N=k+1:=⟨N-1,by omega⟩;obtain rfl:i=a.length:=by omega
  refine⟨.bool false,c6,out,x8,x9,M,?_,E,?_⟩;rw [p9];simp [Fh];rw [ac1,zR,ae8];exact O
 | succ j ih=>
  intro i B acc c3 c6 out x8 x9 M N E O F hN;obtain⟨N,rfl⟩:∃k,N=k+1:=⟨N-1,by omega⟩;have h:i<a.length:=by omega
  have l:i<rows.length:=by omega
  have D:=E.ok;have p:M.lim<=M.nx:=by rw [E.lim];exact aP V E.nx
  obtain⟨a7,o1,Y,a2,a3,Z,a5⟩:=(T.slice.ext E).at l;have o:=D9.get U i h l;have J:=o.row;have y:=Z 0 4 (by omega) (by omega);rw [U9,W9 (by omega),Y6] at y;have G:a.drop i=a[i]::a.drop (i+1):=Y8 h;have a6:=jh a i h;have u:au M (λ_=>True) a[i] rows[i]:=Gs E o;generalize hX:a[i]=X at *;generalize hR:rows[i]=R at *;have E1:=G7 D [o7 R];obtain⟨x,P,E2⟩:=Xt hd H C E1.ok (by rw [E1.lim];exact aP p E1.nx) (e:=X) (row:=R) (Gs E1 u) (by omega);have hs:(bE d X).1<=iJ X∧(bE d X).2<=21+d:=⟨(Rz X d).2.2.1,(Rz X d).2.2.2⟩;generalize hb:bE d X=b at *;obtain⟨f,c⟩:=b;simp only at hs;have s:=E2.ok;have I:x.lim<=x.nx:=by rw [E2.lim,E1.lim];exact aP p (aP E1.nx E2.nx)
  have E3:=G7 s [o7 (I7 (f,c)),o7 (I7 (f,c+1))];have hx:fQ (ext x [o7 (I7 (f,c)),o7 (I7 (f,c+1))]) 2 (.slice (x.nx+1) 0 1 1) [I7 (f,c+1)]:=by have:=AY (yh s [o7 (I7 (f,c))]) (I7 (f,c+1)) (by simp [I7]);exact this
  have O3:=((O.ext E1).ext E2).ext E3;have Eall:=E.trans (E1.trans (E2.trans E3));obtain⟨v5,M5,Q,t,F5,W⟩:=WR (lo:=m.nx) (rs:=2) (bytes:=16) (r:=I7 (f,c+1)) E3.ok (by rw [Eall.lim];exact V) Eall.nx (by omega) O3 hx (by simp [I7]) (by simp [I7,w9]) (by rw [yB];omega) ⟨by omega,by omega⟩;have po:=KV t.slice;have w:iT acc ++ [I7 (f,c+1)]=iT (acc ++ [(f,c+1)]):=by simp [iT]
  rw [w] at t;have EM5:Ext m M5:=⟨F5.ok,aP Eall.nx F5.nx,F5.lim.trans Eall.lim,λi B=>(F5.old i B (by omega)).trans (Eall.old i B)⟩;obtain⟨c3',c6',out',x8',x9',M',S,q1,q2⟩:=ih (i+1) (by omega) (acc ++ [(f,c+1)]) tt ff v5 (.ptr M.nx 0) (.ptr x.nx 0) M5 N EM5 t (by simp;omega) (by omega);refine⟨c3',c6',out',x8',x9',M',?_,q1,?_⟩;obtain⟨x1,x2,x3,x4,x5,x6⟩:=CF D p;obtain⟨y1,y2,y3,y4,y5,y6⟩:=CF s I;have gR:x.get M.nx=some (o7 R):=by rw [E2.old _ (by simp),A8 D];rfl
  have w2:mK ((c:Int)+1)=(c:Int)+1:=O0 (by omega) (by omega);have w3:mK (d:Int)=(d:Int):=O0 (by omega) (by omega);have ed:decide ((d:Int)+1<=0)=false:=decide_eq_false (by omega);obtain⟨g,A⟩:=J;have L:uW (some (o7 (r4 0 0 [] nS))) 0 R=some (o7 R):=by rw [gZ (by simp [g]) (by simp)];simp [g]
  have K:CY (some (o7 R)) 0 4=some (.agg R):=by rw [fP (by omega) (by omega),U9,W9 (by omega)]
  simp only [I7,show ((c+1:Nat):Int)=(c:Int)+1 from rfl] at Q P S ⊢;rw [p9,← S];simp [Fh,H8,I8,x1,x2,x3,x4,x5,x6,y1,y2,y3,y4,y5,y6,w9,Y,y,h,g,A,L,K,P,gR,w2,w3,ed,Q,po,bs2,P9 (i:=i) (by omega)];rw [G,zR,hb];simpa using q2
theorem aey (n fu:Nat)(C:20000<=fu):∀d:Nat,d<=100->C76 KW (n+2*d+1) fu d:=by
 intro d;induction d with
 | zero=>
  intro U m v a j s h K;obtain⟨o,u,l⟩:=h;have b:=D9.len l;have c:=u.slice.len;rw [b] at c;match a,l with
  | [],l=>refine⟨nS,m,?_,Ext.refl j,gB.nil _ _ _⟩;obtain⟨fu,rfl⟩:∃k,fu=k+1:=⟨fu-1,by omega⟩;rw [enter (sf:=f63) rfl rfl];simp [f63,Fh,p9,aX j s,w9,c]
  | e::a,l=>
   obtain⟨F,W,N,a2,a3,O,a5⟩:=u.slice.at (i:=0) (by rw [b];simp);have y:=D9.get l 0 (by simp) (by rw [b];simp);have E:=y.row;have t:=O 0 4 (by omega) (by omega);rw [U9,W9 (by omega),Y6] at t;generalize hR:o[0]'(by rw [b];simp)=R at *;have E3:=G7 j [o7 R,o7 (I7 (0,21))];have V:fQ (ext m [o7 R,o7 (I7 (0,21))]) 2 (.slice (m.nx+1) 0 1 1) [I7 (0,21)]:=by have:=AY (yh j [o7 R]) (I7 (0,21)) (by simp [I7]);exact this
   obtain⟨Y,M5,I,w,F5,L⟩:=WR (lo:=m.nx) (rs:=2) (bytes:=16) (r:=I7 (0,21)) E3.ok (by rw [E3.lim];exact s) E3.nx (by omega) (gB.nil _ _ _) V (by simp [I7]) (by simp [I7,w9]) (by simp) ⟨by omega,by omega⟩;have G:=KV w.slice;refine⟨Y,M5,?_,⟨F5.ok,aP E3.nx F5.nx,F5.lim.trans E3.lim,λi J=>(F5.old i J (by omega)).trans (E3.old i J)⟩,by simpa [zR,iT] using w⟩;obtain⟨f,x⟩:=E;have H:uW (some (o7 (r4 0 0 [] nS))) 0 R=some (o7 R):=by rw [gZ (by simp [f]) (by simp)];simp [f]
   obtain⟨fu,rfl⟩:∃k,fu=k+1:=⟨fu-1,by omega⟩;have D:(0:Int)<((a.length:Int)+1):=by omega
   rw [enter (sf:=f63) rfl rfl];simp only [I7,show ((0:Nat):Int)=0 from rfl,show ((21:Nat):Int)=21 from rfl] at I ⊢;have A:qD v none (λid q p _=>if 0<p then some (d9.ptr id q) else none) (λid q p _=>if 0<p then some (d9.ptr id q) else none)=some (.ptr F W):=by simpa using N
   simp [f63,Fh,p9,aX j s,w9,c,D,A,t,f,x,H,I,G,bs2]
 | succ d ih=>intro U m v a j s h K;obtain⟨o,u,l⟩:=h;have b:=D9.len l;have c:=u.slice.len;rw [b] at c;have T:=Q8 a;obtain⟨P,Q,z,Z,a0,M',g,X,M⟩:=aaw (n:=n+2*d) (fu:=fu) (d:=d) (by omega) C (ih (by omega)) j s a u l K a.length 0 (by omega) [] .undef .undef nS .undef .undef m fu (Ext.refl j) (gB.nil _ _ _) (by simp) (by omega);have S:I4 (λB m k=>Fh (j6 KW fu (n+2*d+2)) fu none B m k) fu (Cz v (iV 0) (iV (a.length:Int)) .undef v (.int .i64 ((d:Int)+1)) .undef nS .undef .undef nS) m []=_:=g;refine⟨z,M',?_,X,by simpa using M⟩;have G:=KV M.slice;rw [show n+2*(d+1)+1=(n+2*d+2)+1 from by omega,enter (sf:=f63) rfl rfl];simp [f63,aX j s,w9,c,S,G]
theorem Xu (n fu d:Nat)(a:20000<=fu)(b:d<=100)(c:2*d+1<=n):C76 KW n fu d:=by
 have:=aey (n-(2*d+1)) fu a d b
 rwa [show n-(2*d+1)+2*d+1=n from by omega] at this
theorem U2.ext {m m':Mem}{S:Nat->Prop}{a:List ak}{v:d9}(h:U2 m S a v)(e:Ext m m'):U2 m' S a v:=by obtain⟨b,d,f⟩:=h;exact⟨b,d.mono e.nx (λi c _=>e.old i c) λ_ _ h=>h,H7.mono e.nx (λi c _=>e.old i c) (λ_ _ h=>h) a b f⟩
theorem bD:∀l:List ak,l.length<=Z0 l
 | []=>by simp
 | e::l=>by have:=bD l;have:1<=stP e:=by {cases e;simp [stP];omega};simp [Z0];omega
theorem mE:∀(l:List ak) (i:Nat) (h:i<l.length),stP l[i]<=Z0 l
 | e::l,0,h=>by simp [Z0]
 | e::l,i+1,h=>by have:=mE l i (by simpa using h);simp [Z0];omega
theorem Xv (l:List ak)(d:Nat):(bS d l).1<=Z0 l∧(bS d l).2<=21+d:=⟨(IC l d).2.2.1,(IC l d).2.2.2⟩
theorem Kw {x i:OF}{ls:List d9}{env:T d9}{a b:d9}(e:x ls env=.agg [a,b])(d:i ls env=.int .i64 0):Ad 1 2 x i ls env=some a:=by show tX (x ls env) (λc=>idx 2 (i ls env) λk=>pE (Nat.mul k 1) c)=_;rw [e,d];rfl
theorem RG {x i:OF}{ls:List d9}{env:T d9}{a b:d9}(e:x ls env=.agg [a,b])(d:i ls env=.int .i64 1):Ad 1 2 x i ls env=some b:=by show tX (x ls env) (λc=>idx 2 (i ls env) λk=>pE (Nat.mul k 1) c)=_;rw [e,d];rfl
theorem Qn (a b c:Nat×Nat):comb (comb a b) c=comb a (comb b c):=by simp only [comb,agN];omega
def C35 (K:Known)(n fu d:Nat):Prop:=∀(m:Mem) (v:d9) (l:List ak),m.Ok->m.lim<=m.nx->U2 m (λ_=>True) l v->Z0 l<=10000->
 ∃m',j6 K fu n (.func 133) [v,iV (d:Int)] m=some [⟨.agg (I7 (bS d l)),m'⟩]∧Ext m m'
theorem Cg {n fu d:Nat}(hd:d<=100)(a1:20000<=fu)(F:C35 KW (n+1) fu d){M:Mem}(hM:M.Ok){q:Nat}(u:q<M.nx)(t:M.lim<=q){s:Nat×Nat}(hg:M.get q=some (o7 (I7 s)))(L:s.1<=100000)(O:s.2<=1000)
  {vt vf y:d9} {i:Nat} {b:List ak} (z:i<2) (hb:[vt,vf][i]?=some y) (v:U2 M (λ_=>True) b y) (hp:Z0 b<=10000) (S T U V W X Y Z E P Q j:d9) (N:Nat):
  ∃x14' M',I4 (λenv m k=>yj (j6 KW fu (n+1)) fu none env m k) (N+1) (Kn S T U V W (.int .i64 ((d:Int)+1)) X Y Z (iV (i:Int)) E (.agg [vt,vf]) P (.ptr q 0) Q j) M []=I4 (λenv m k=>yj (j6 KW fu (n+1)) fu none env m k) N (Kn S T U V W (.int .i64 ((d:Int)+1)) X Y Z (.int .i64 ((i+1:Nat):Int)) tt (.agg [vt,vf]) y (.ptr q 0) x14' j) M' []∧
   At q M M'∧M'.get q=some (o7 (I7 (comb s ((bS d b).1,(bS d b).2+1)))):=by
 obtain⟨g,g1,E1⟩:=F M y b hM (by omega) v hp;obtain⟨G,H⟩:=Xv b d;generalize hB:bS d b=B at *;obtain⟨e,c⟩:=B;obtain⟨C,D⟩:=s;simp only at G H L O;have f:=E1.ok;have r:g.lim<=g.nx:=by rw [E1.lim];have:=E1.nx;omega
 have E2:=G7 f [o7 (I7 (e,c)),o7 (I7 (e,c+1))];have w:fQ (ext g [o7 (I7 (e,c)),o7 (I7 (e,c+1))]) 2 (.slice (g.nx+1) 0 1 1) (iT [(e,c+1)]):=by have:=AY (yh f [o7 (I7 (e,c))]) (I7 (e,c+1)) (by simp [I7]);exact this
 obtain⟨A,g3,E3⟩:=Kv E2.ok (by rw [E2.lim];exact aP r E2.nx) (C,D) [(e,c+1)] ⟨by simp,by simp;omega⟩ w (by simp only;omega) (by simp only;omega) n fu (by simp;omega);have Eall:=E1.trans (E2.trans E3);have J:q<A.nx:=gq u Eall.nx;have I:A.lim<=q:=by rw [Eall.lim];exact t
 have st:=sB I;have l:A.get q=some (o7 (I7 (C,D))):=(Eall.old q u).trans hg;have o:(ext g [o7 (I7 (e,c))]).get q=some (o7 (I7 (C,D))):=by rw [aV f _ (gq u E1.nx),E1.old q u,hg]
 refine⟨.ptr g.nx 0,A.set q (o7 (I7 (comb (C,D) (e,c+1)))),?_,((At.start hM u t).nx Eall).set _,J9 Eall.ok _ J rfl⟩;obtain⟨y1,y2,y3,y4,y5,y6⟩:=CF f r;have w2:mK ((c:Int)+1)=(c:Int)+1:=O0 (by omega) (by omega);have w3:mK (d:Int)=(d:Int):=O0 (by omega) (by omega);have K:∀(R:Type) (p:d9->R) (q:R),bg y p q=q:=λR p q=>by obtain⟨a0,h,_⟩:=v;exact h.slice.mq p q
 have q0:=λx i ls env w z=>Kw (x:=x) (i:=i) (ls:=ls) (env:=env) (a:=vt) (b:=vf) w z;have q1:=λx i ls env w z=>RG (x:=x) (i:=i) (ls:=ls) (env:=env) (a:=vt) (b:=vf) w z;rcases i with _ | _ | i
 rotate_left 2
 omega;all_goals
  obtain rfl:=Y4 hb;simp only [I7,gK,List.foldl,comb,show ((c+1:Nat):Int)=(c:Int)+1 from rfl] at g1 g3 l o ⊢;rw [p9];simp [yj,H8,I8,y1,y2,y3,y4,y5,y6,w9,bs2,g1,g3,l,o,st,w2,w3,K,q0,q1,aex,show mK 1=1 from O0 (by decide) (by decide),show mK (1+1)=2 from O0 (by decide) (by decide),show mK 2=2 from O0 (by decide) (by decide)]
theorem Qo {n fu d:Nat}(K:d<=100)(z:20000<=fu)(y:C35 KW (n+1) fu d){M:Mem}(Q:M.Ok){q:Nat}(L:q<M.nx)(A:M.lim<=q){s:Nat×Nat}(T:M.get q=some (o7 (I7 s)))(U:s.1<=20000)(V:s.2<=500)
  {vt vf:d9} {t f:List ak} (W:U2 M (λi=>i≠q) t vt) (S:U2 M (λi=>i≠q) f vf) (J:Z0 t<=10000) (I:Z0 f<=10000) (h j o p r u w x c e g b:d9) (N:Nat):
  ∃x12' x14' M',I4 (λenv m k=>yj (j6 KW fu (n+1)) fu none env m k) (N+3) (Kn h j o p r (.int .i64 ((d:Int)+1)) u w x (iV 0) c (.agg [vt,vf]) e (.ptr q 0) g b) M []=some [⟨.exit 2,(Kn h j o p r (.int .i64 ((d:Int)+1)) u w x (iV 2) ff (.agg [vt,vf]) x12' (.ptr q 0) x14' b),M',[],none⟩]∧
   At q M M'∧M'.get q=some (o7 (I7 (comb (comb s ((bS d t).1,(bS d t).2+1)) ((bS d f).1,(bS d f).2+1)))):=by
 have B:∀(m:Mem) (l:List ak) (v:d9),U2 m (λi=>i≠q) l v->U2 m (λ_=>True) l v:=λm l v ⟨a,D,E⟩=>⟨a,D.mono (J2 _) (λ_ _ _=>rfl) λ_ _ _=>trivial,H7.mono (J2 _) (λ_ _ _=>rfl) (λ_ _ _=>trivial) l a E⟩;obtain⟨X,M1,O,A1,G1⟩:=Cg (vt:=vt) (vf:=vf) (i:=0) K z y Q L A T (by omega) (by omega) (by omega) rfl (B _ _ _ W) J h j o p r u w x c e g b (N+2);have F:U2 M1 (λ_=>True) f vf:=by obtain⟨a,D,E⟩:=S;exact⟨a,D.mono A1.fr.nx (λi G H=>A1.fr.old i G H) λ_ _ _=>trivial,H7.mono A1.fr.nx (λi G H=>A1.fr.old i G H) (λ_ _ _=>trivial) f a E⟩
 have R:=Xv t d;obtain⟨Y,M2,P,A2,G2⟩:=Cg (vt:=vt) (vf:=vf) (i:=1) K z y A1.ok A1.UJ A1.lim G1 (by simp only [comb];omega) (by simp only [comb];omega) (by omega) rfl F I h j o p r u w x tt vt X b (N+1);have C:I4 (λenv m k=>yj (j6 KW fu (n+1)) fu none env m k) (N+3) (Kn h j o p r (.int .i64 ((d:Int)+1)) u w x (iV 0) c (.agg [vt,vf]) e (.ptr q 0) g b) M []=_:=O;refine⟨vf,Y,M2,?_,⟨L,A,A1.fr.trans (A2.fr.down A1.fr.nx)⟩,G2⟩;rw [C,P,p9];simp [yj]
theorem Qp {n fu d:Nat}(hd:d<=100)(ah:20000<=fu)(a8:C35 KW (n+1) fu d)(a9:C76 KW (n+1) fu d){m:Mem}{p:Nat}(hm:m.Ok)(hp:p+1<m.nx)(hl:m.lim<=p){v:d9}{rows:List (List d9)}(l:List ak)(h1:jf m (λi=>i<p) 5 v rows)(h2:H7 m (λi=>i<p) l rows)(ax:Z0 l<=10000):
  ∀(j i:Nat),i+j=l.length->∀(s:Nat×Nat) (c3 c6 x8 x9 c10 x11 x12 x13 x14:d9) (M:Mem) (N:Nat),At (p+1) m M->M.get (p+1)=some (o7 (I7 s))->s.1<=10000*i->s.2<=1000->j+1<=N->
  ∃c3' c6' x8' x9' c10' x11' x12' x13' x14' M',I4 (λenv m k=>yu (j6 KW fu (n+1)) fu none env m k) N (Kn v (iV (i:Int)) (iV (l.length:Int)) c3 v (.int .i64 ((d:Int)+1)) c6 (.ptr p 0) x8 x9 c10 x11 x12 x13 x14 (.ptr (p+1) 0)) M [] =
   some [⟨.exit 0,(Kn v (iV (l.length:Int)) (iV (l.length:Int)) c3' v (.int .i64 ((d:Int)+1)) c6' (.ptr p 0) x8' x9' c10' x11' x12' x13' x14' (.ptr (p+1) 0)),M',[],none⟩]∧At (p+1) m M'∧M'.get (p+1)=some (o7 (I7 (comb s (bS (d+1) (l.drop i))))):=by
 have D:=H7.len h2;have Y:=h1.slice.len;rw [D] at Y;have av:=bD l;intro j;induction j with
 | zero=>
  intro i c s c3 c6 x8 x9 c10 x11 x12 x13 x14 M N b hg am an hN;obtain⟨N,rfl⟩:∃k,N=k+1:=⟨N-1,by omega⟩;obtain rfl:i=l.length:=by omega
  refine⟨.bool false,c6,x8,x9,c10,x11,x12,x13,x14,M,?_,b,?_⟩;rw [p9];simp [yu];rw [ac1,bS,hg];simp [comb]
 | succ j ih=>
  intro i c s c3 c6 x8 x9 c10 x11 x12 x13 x14 M N b hg am an hN;obtain⟨N,rfl⟩:∃k,N=k+1:=⟨N-1,by omega⟩;have u:i<l.length:=by omega
  have w:i<rows.length:=by omega
  have hM:=b.ok;have ab:=b.NJ;have pr:∀i,i<m.nx->i<p->M.get i=m.get i:=λi c hq=>b.fr.old i c (by omega);obtain⟨b1,o1,a1,a2,a3,a4,a5⟩:=(jf.mono h1 b.fr.nx pr (S':=λi=>i<p) λ_ _ h=>h).slice.at w;have x:=H7.get h2 i u w;have ay:=x.row;have O:=a4 0 5 (by omega) (by omega);rw [U9,W9 (by omega),Y6] at O;have ae:l.drop i=l[i]::l.drop (i+1):=Y8 u;have al:=mE l i u;have E:mD M (λi=>i<p) l[i] rows[i]:=mD.mono b.fr.nx pr (λ_ _ h=>h) _ _ x;generalize hX:l[i]=X at *;generalize hR:rows[i]=R at *;obtain⟨I,J,e,t,f⟩:=X;obtain⟨ve,L,K,re,rt,rf,rfl,A,af,F,ao,C,ag⟩:=E;rw [stP] at al;have E1:=G7 hM [o7 (r5 I J ve L K)];have Q:=b.nx E1;obtain⟨ap,m2,g2,E2,O2⟩:=a9 (ext M [o7 (r5 I J ve L K)]) ve e E1.ok Q.NJ
   ⟨re,A.mono E1.nx (λi c _=>E1.old i c) λ_ _ _=>trivial,D9.mono E1.nx (λi c _=>E1.old i c) (λ_ _ _=>trivial) _ _ af⟩ (by omega)
  have S:=Q.nx E2;have sm:=NK d e hd (by omega);have b0:=(vE e d).len;have au:=Q8 e;obtain⟨y,g3,E3⟩:=Kv E2.ok S.NJ (1,1) (zR d e) sm O2.slice (by simp) (by simp) n fu (by omega);have z:=S.nx E3;have az:(gK (1,1) (zR d e)).1<=1+R5 e∧(gK (1,1) (zR d e)).2<=21+d:=⟨(zS (vE e d)).2.2.1,(zS (vE e d)).2.2.2⟩;generalize hW:gK (1,1) (zR d e)=W at *;have E4:=G7 E3.ok [o7 (I7 W)];have T:=z.nx E4;have E14:=E1.trans (E2.trans (E3.trans E4));have aw:M.nx<=y.nx:=aP E1.nx (aP E2.nx E3.nx);have Z:M.nx<y.nx:=gq (by simp) (aP E2.nx E3.nx);have tr:∀(l:List ak) (v:d9) (rows:List (List d9)),jf M (λi=>i<p) 5 v rows->H7 M (λi=>i<p) l rows->U2 (ext y [o7 (I7 W)]) (λi=>i≠y.nx) l v:=λl v rows x1 x2=>⟨rows,x1.mono E14.nx (λi c _=>E14.old i c) λi _ h=>by have:=b.UJ;omega,H7.mono E14.nx (λi c _=>E14.old i c) (λi _ h=>by have:=b.UJ;omega) _ _ x2⟩
  obtain⟨N2,ac⟩:∃k,fu=k+3:=⟨fu-3,by omega⟩;obtain⟨x12',x14',m5,g5,a,G5⟩:=Qo hd ah a8 E4.ok (q:=y.nx) (by simp) (by rw [E4.lim];exact z.NJ) (s:=W) (by rw [A8 E3.ok];rfl) (by omega) (by omega) (tr t L rt F ao) (tr f K rf C ag) (by omega) (by omega)
   v (iV (i:Int)) (iV (l.length:Int)) tt v ff (.ptr p 0) (.ptr M.nx 0) c10 x12 x14 (.ptr (p+1) 0) N2
  rw [← ac] at g5;have ar:=Xv t d;have aq:=Xv f d;have U:(bSt (d+1) (.mk I J e t f))=comb (comb W ((bS d t).1,(bS d t).2+1)) ((bS d f).1,(bS d f).2+1):=by rw [bSt,← hW];rfl
  have ad:(comb (comb W ((bS d t).1,(bS d t).2+1)) ((bS d f).1,(bS d f).2+1)).1<=10000∧(comb (comb W ((bS d t).1,(bS d t).2+1)) ((bS d f).1,(bS d f).2+1)).2<=1000:=by simp only [comb];omega
  rw [← U] at G5 ad;generalize hB:bSt (d+1) (.mk I J e t f)=B at *;have r:=a.ok;have V:m5.lim<=m5.nx:=a.NJ;have a0:m5.get (p+1)=some (o7 (I7 s)):=by have h0:p+1<M.nx:=b.UJ;rw [a.fr.old _ (by simp;omega) (by omega),aV E3.ok _ (by omega),E3.old _ (by have:=E2.nx;simp at this;omega),E2.old _ (by simp;omega),aV hM _ h0,hg]
  have E6:=G7 r [o7 (I7 B)];have hx:fQ (ext m5 [o7 (I7 B)]) 2 (.slice m5.nx 0 1 1) (iT [B]):=AY r (I7 B) (by simp [I7]);obtain⟨m7,g7,E7⟩:=Kv E6.ok (by rw [E6.lim];exact aP V E6.nx) s [B] ⟨by simp,by simp;omega⟩ hx (by omega) (by omega) n fu (by simp;omega);have g:At (p+1) m m5:=⟨b.lt,b.limp,T.fr.trans ⟨a.ok,a.fr.nx,a.fr.lim,λi c hn=>a.fr.old i (by have:=T.fr.nx;omega) (by have:=b.fr.nx;omega)⟩⟩;have o:=(g.nx E6).nx E7;have aa:=o.set (o7 (I7 (comb s B)));obtain⟨c3',c6',x8',x9',c10',x11',G,x13',H,M',gg,q1,q2⟩:=ih (i+1) (by omega) (comb s B) tt ff (.ptr M.nx 0) (iV 2) ff (.agg [L,K]) x12' (.ptr y.nx 0) x14' (m7.set (p+1) (o7 (I7 (comb s B)))) N aa (J9 o.ok _ o.UJ rfl) (by simp only [comb];omega) (by simp only [comb];omega) (by omega);refine⟨c3',c6',x8',x9',c10',x11',G,x13',H,M',?_,q1,?_⟩;obtain⟨x1,x2,x3,x4,x5,x6⟩:=CF hM ab;obtain⟨y1,y2,y3,y4,y5,y6⟩:=CF E3.ok z.NJ;obtain⟨z1,z2,z3,z4,z5,z6⟩:=CF r V;have aj:m7.lim<=p+1:=o.lim;have st:=sB aj;have ai:m7.get (p+1)=some (o7 (I7 s)):=by rw [E7.old _ (by have:=g.UJ;simp;omega),aV r _ g.UJ,a0]
  have P:y.get M.nx=some (o7 (r5 I J ve L K)):=by rw [E3.old _ (gq (by simp) E2.nx),E2.old _ (by simp),A8 hM];rfl
  have a7:(ext y [o7 (I7 W)]).get M.nx=some (o7 (r5 I J ve L K)):=by rw [aV E3.ok _ Z,P]
  have w3:mK (d:Int)=(d:Int):=O0 (by omega) (by omega);have ed:decide ((d:Int)+1<=0)=false:=decide_eq_false (by omega);have ce:=A.slice.cells;have ct:=F.slice.cells;have cf:=C.slice.cells;have oe:=A.slice.w9;have ot:=F.slice.w9;have of:=C.slice.w9;have po:=KV O2.slice;obtain⟨W1,W2⟩:=W;obtain⟨B1,B2⟩:=B;obtain⟨s1,s2⟩:=s;simp only [I7,gK,List.foldl,comb,Y6] at *;have a6:j6 KW fu (n+1) (.func 62) [.agg [iV 1,iV 1],ap] m2=_:=g3;rw [p9,← gg];simp [yu,H8,I8,x1,x2,x3,x4,x5,x6,y1,y2,y3,y4,y5,y6,z1,z2,z3,z4,z5,z6,bs2,a1,O,u,ce,ct,cf,oe,ot,of,g2,a6,g5,g7,G5,a0,st,ai,P,a7,w3,ed,po,aex,P9 (i:=i) (by omega)];rw [ae,bS,hB,← Qn];exact q2
theorem aez (fu:Nat)(w:20000<=fu):∀d n:Nat,d<=100->C35 KW (n+2*d+2) fu d:=by
 intro d;induction d with
 | zero=>
  intro n hd m v a j x h P;obtain⟨rows,u,o⟩:=h;have b:=H7.len o;have c:=u.slice.len;rw [b] at c;obtain⟨fu,rfl⟩:∃k,fu=k+1:=⟨fu-1,by omega⟩;match a,o with
  | [],o=>refine⟨ext m [o7 (I7 (0,0)),o7 (I7 (0,0))],?_,G7 j _⟩;rw [enter (sf:=f133) rfl rfl];simp [f133,yu,p9,aX j x,w9,c,bS,I7]
  | e::a,o=>
   obtain⟨id1,o1,U,V,a3,W,a5⟩:=u.slice.at (i:=0) (by rw [b];simp);have z:=H7.get o 0 (by simp) (by rw [b];simp);have K:=z.row;have t:=W 0 5 (by omega) (by omega);rw [U9,W9 (by omega),Y6] at t;generalize hR:rows[0]'(by rw [b];simp)=R at *;refine⟨ext m [o7 (I7 (0,21)),o7 (I7 (0,0)),o7 R],?_,G7 j _⟩;obtain⟨f,y⟩:=K;have L:uW (some (o7 (r5 0 [] nS nS nS))) 0 R=some (o7 R):=by rw [gZ (by simp [f]) (by simp)];simp [f]
   have l:(0:Int)<((a.length:Int)+1):=by omega
   have g4:(ext m [o7 [iV 0,iV 0],o7 [iV 0,iV 0]]).get id1=m.get id1:=aV j _ V;have C:qD v none (λid s q _=>if 0<q then some (d9.ptr id s) else none) (λid s q _=>if 0<q then some (d9.ptr id s) else none)=some (.ptr id1 o1):=by simpa using U
   rw [enter (sf:=f133) rfl rfl];simp [f133,yu,p9,aX j x,w9,c,l,C,t,f,y,L,g4,bS,I7]
 | succ d ih=>
  intro n hd m v a j x h P;obtain⟨rows,u,o⟩:=h;have b:=H7.len o;have c:=u.slice.len;rw [b] at c;have a0:=bD a;have E:=G7 j [o7 (I7 (0,0)),o7 (I7 (0,0))];have hA:At (m.nx+1) (ext m [o7 (I7 (0,0)),o7 (I7 (0,0))]) _:=At.start E.ok (by simp) (by rw [E.lim];omega);have F:jf (ext m [o7 (I7 (0,0)),o7 (I7 (0,0))]) (λi=>i<m.nx) 5 v rows:=by have:=jf.mono (m':=ext m [o7 (I7 (0,0)),o7 (I7 (0,0))]) u E.nx (λi I _=>E.old i I) (S':=λi=>i<m.nx) λ_ h _=>h;exact this
  have G:H7 (ext m [o7 (I7 (0,0)),o7 (I7 (0,0))]) (λi=>i<m.nx) a rows:=H7.mono E.nx (λi I _=>E.old i I) (λ_ h _=>h) _ _ o;obtain⟨X,Y,a6,a7,O,S,M,T,N,M',g,A,Q⟩:=Qp (d:=d) (n:=n+2*d+2) (p:=m.nx) (by omega) w (by have:=ih (n+1) (by omega);rwa [show n+1+2*d+2=n+2*d+2+1 from by omega] at this) (Xu _ _ _ w (by omega) (by omega)) E.ok (by simp) (by rw [E.lim];exact x) a F G P a.length 0 (by omega) (0,0) .undef .undef .undef .undef .undef .undef .undef .undef .undef (_) fu hA (by rw [O4 j];rfl) (by simp) (by simp) (by omega);have Z:I4 (λD m k=>yu (j6 KW fu (n+2*d+3)) fu none D m k) fu (Kn v (iV 0) (iV (a.length:Int)) .undef v (.int .i64 ((d:Int)+1)) .undef (.ptr m.nx 0) .undef .undef .undef .undef .undef .undef .undef (.ptr (m.nx+1) 0)) (ext m [o7 [iV 0,iV 0],o7 [iV 0,iV 0]]) []=_:=g;rw [U9,show comb (0,0) (bS (d+1) a)=bS (d+1) a from by simp [comb]] at Q;have H:M'.get m.nx=some (o7 [iV 0,iV 0]):=by rw [A.fr.old _ (by simp) (by omega),A8 j];rfl
  have l:m.nx<M'.nx:=gq (by simp) A.fr.nx;have J:M'.lim<=m.nx:=by have:=A.fr.lim;rw [E.lim] at this;omega
  have st:=sB J;have gs:∀B,(M'.set m.nx B).get m.nx=some B:=λB=>J9 A.ok _ l rfl;refine⟨M'.set m.nx (o7 (I7 (bS (d+1) a))),?_,(A.ext E (by omega)).set l (by omega) _⟩;generalize bS (d+1) a=r at *;obtain⟨r1,r2⟩:=r;simp only [I7] at *;rw [show n+2*(d+1)+2=(n+2*d+3)+1 from by omega,enter (sf:=f133) rfl rfl];simp [f133,aX j x,w9,c,Z,H,Q,st,gs]
theorem aax (n fu d:Nat)(a:20000<=fu)(b:d<=100)(c:2*d+2<=n):C35 KW n fu d:=by
 have:=aez fu a d (n-(2*d+2)) b
 rwa [show n-(2*d+2)+2*d+2=n from by omega] at this
theorem aeA {m:Mem}(x:m.Ok)(u:m.lim<=m.nx){v:d9}{l:List ak}(h:U2 m (λ_=>True) l v)(hp:Z0 l<=10000)(n fu:Nat)(f:20000<=fu):
  ∃m',j6 KW fu (n+50) (.func 79) [v] m=some [⟨.tuple [.int .i64 (yA l).1,.int .i64 (yA l).2],m'⟩]∧Ext m m':=by
 obtain⟨j,w,E1⟩:=aax (n+49) fu 22 f (by omega) (by omega) m v l x u h hp;have y:=Xv l 22;rw [← Xp l];generalize bS 22 l=r at *;obtain⟨d,e⟩:=r;have b:=E1.ok;have g:j.lim<=j.nx:=by rw [E1.lim];exact aP u E1.nx
 obtain⟨k,o,p,q,s,t⟩:=CF b g;refine⟨ext j [o7 (I7 (d,e))],?_,E1.trans (G7 b _)⟩;have a:j6 KW fu (n+49) (.func 133) [v,iV 22] m=_:=w;rw [enter (sf:=f79) rfl rfl];simp only [I7] at *;by_cases h1:500<d;have c:decide ((500:Int)<(d:Int))=true:=decide_eq_true (by omega);simp [f79,H8,I8,k,o,p,q,s,t,a,c,h1];have c:decide ((500:Int)<(d:Int))=false:=decide_eq_false (by omega);by_cases h2:20<e;have i:decide ((20:Int)<(e:Int))=true:=decide_eq_true (by omega);simp [f79,H8,I8,k,o,p,q,s,t,a,c,i,h1,h2];have i:decide ((20:Int)<(e:Int))=false:=decide_eq_false (by omega);simp [f79,H8,I8,k,o,p,q,s,t,a,c,i,h1,h2]
theorem mF:∀(l:List Ex) (i:Nat) (h:i<l.length),gQ l[i]<=U5 l
 | e::l,0,h=>by simp [U5];omega
 | e::l,i+1,h=>by have:=mF l i (by simpa using h);simp [U5];omega
theorem vF:∀(l:List ak) (i:Nat) (h:i<l.length),wh l[i]<=aR l
 | e::l,0,h=>by simp [aR];omega
 | e::l,i+1,h=>by have:=vF l i (by simpa using h);simp [aR];omega
end
end Go.Proofs.YtfddpcckppibjaaGreatDoor.TT
