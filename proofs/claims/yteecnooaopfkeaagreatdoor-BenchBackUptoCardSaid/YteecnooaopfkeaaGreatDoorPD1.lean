/- Counting and comparing statements, walked; conditions: the memory holds what the arguments say. -/
import Derived.Test.YteecnooaopfkeaaGreatDoorPB4
import GoSem.Core.Utf8
import Derived.Lib.AtoiAll
import Derived.Lib.ItoaNum
set_option linter.all false
namespace Go.Proofs.YteecnooaopfkeaaGreatDoor.TT
open Go Go.AM
noncomputable section
abbrev By:=List UInt8
def jq (b:UInt8):Bool:=decide (97<=b.toNat)&&decide (b.toNat<=122)
def bD (b:UInt8):Bool:=decide (48<=b.toNat)&&decide (b.toNat<=57)
def uN (b:UInt8):Bool:=jq b||bD b
def Q7 (p:UInt8->Bool):By->Nat
 | []=>0
 | b::s=>if p b then Q7 p s+1 else 0
theorem mK (p:UInt8->Bool):∀s:By,Q7 p s<=s.length
 | []=>aP _
 | b::s=>by rw [Q7];split;simpa using mK p s;simp
theorem Bl (p:UInt8->Bool):∀(s:By) (i:Nat) (h:i<s.length),i<Q7 p s->p s[i]=true
 | b::s,0,h,hi=>by rw [Q7] at hi;split at hi;assumption;omega
 | b::s,i+1,h,hi=>by rw [Q7] at hi;split at hi;exact Bl p s i (by simpa using h) (by omega);omega
theorem Ht (p:UInt8->Bool):∀(s:By) (h:Q7 p s<s.length),p s[Q7 p s]=false
 | b::s,h=>by
  by_cases hb:p b=true;have e:Q7 p (b::s)=Q7 p s+1:=by rw [Q7,if_pos hb]
  have:=Ht p s (by rw [e] at h;simpa using h);simp only [e,agD];exact this;have e:Q7 p (b::s)=0:=by rw [Q7,if_neg hb]
  simp only [e,ae4];simpa using hb
def nX (s:By):Nat:=s.foldl (λn b=>10*n+(b.toNat-48)) 0
theorem Wn (s:By)(b:UInt8):nX (s ++ [b])=10*nX s+(b.toNat-48):=by simp [nX]
def uO (s:By):Bool:=decide (s=[60,61])||decide (s=[62,61])||decide (s=[61,61])||decide (s=[33,61])
def ones:By:=[123,125,40,41,44,59,61,43,45,42,47,37,60,62]
def kX (s:By):Option (Nat×Nat):=match s with
 | []=>none
 | b :: _=>
  if jq b then (if Q7 uN s<=16 then some (1,Q7 uN s) else none)
  else if bD b then (if (b=48∧1<Q7 bD s)∨9007199254740992<nX (s.take (Q7 bD s)) then none else some (2,Q7 bD s))
  else if uO (s.take 2) then some (3,2)
  else if ones.contains b then some (3,1) else none
abbrev Tok:=Nat×By
def pO:Nat->Nat->By->Sum Nat (List Tok)
 | 0,_,_=>.inr []
 | _+1,_,[]=>.inr []
 | n+1,i,b::t=>
  if b=32∨b=10 then pO n (i+1) t
  else if b=35 then pO n (i+Q7 (λc=>c != 10) (b::t)) ((b::t).drop (Q7 (λc=>c != 10) (b::t)))
  else match kX (b::t) with
   | none=>.inl i
   | some (k,l)=>match pO n (i+l) ((b::t).drop l) with
    | .inl j=>.inl j
    | .inr ts=>.inr ((k,(b::t).take l)::ts)
theorem wT {s:By}{k l:Nat}(h:kX s=some (k,l)):1<=l∧l<=s.length∧1<=k∧k<=3∧∀i (hi:i<s.length),i<l->(s[i]).toNat<128:=by
 match s with
 | []=>cases h
 | b::t=>
  rw [kX] at h;by_cases h1:jq b=true;rw [if_pos h1] at h;split at h<;>cases h
  refine⟨?_,mK _ _,by omega,by omega,λi hi a=>?_⟩;rw [Q7,if_pos (by simp [uN,h1])];omega;have:=Bl _ _ i hi a;simp only [uN,jq,bD,aa2,l9,decide_eq_true_eq] at this;omega;rw [if_neg h1] at h;by_cases h2:bD b=true;rw [if_pos h2] at h;split at h<;>cases h
  refine⟨?_,mK _ _,by omega,by omega,λi hi a=>?_⟩;rw [Q7,if_pos h2];omega;have:=Bl _ _ i hi a;simp only [bD,l9,decide_eq_true_eq] at this;omega;rw [if_neg h2] at h;by_cases h3:uO ((b::t).take 2)=true;rw [if_pos h3] at h;cases h;match t,h3 with
  | c::t,h3=>
   refine⟨by omega,by simp,by omega,by omega,λi hi a=>?_⟩;simp only [uO,adI,ahr,aa2,decide_eq_true_eq,ad3,and_true] at h3;match i,a with
   | 0,_=>show b.toNat<128;rcases h3 with ((⟨rfl,_⟩ | ⟨rfl,_⟩) | ⟨rfl,_⟩) | ⟨rfl,_⟩<;>decide
   | 1,_=>show c.toNat<128;rcases h3 with ((⟨_,rfl⟩ | ⟨_,rfl⟩) | ⟨_,rfl⟩) | ⟨_,rfl⟩<;>decide
  | [],h3=>simp [uO] at h3
  rw [if_neg h3] at h;by_cases h4:ones.contains b=true;rw [if_pos h4] at h;cases h;refine⟨by omega,by simp,by omega,by omega,λi hi a=>?_⟩;obtain rfl:i=0:=by omega
  show b.toNat<128;simp only [ones,aiX,Y4,ae1,or_false,decide_eq_true_eq] at h4;rcases h4 with rfl | rfl | rfl | rfl | rfl | rfl | rfl | rfl | rfl | rfl | rfl | rfl | rfl | rfl<;>decide
  rw [if_neg h4] at h;cases h
theorem sF:∀(n i:Nat) (s:By) (m:Nat),s.length<=n->s.length<=m->pO n i s=pO m i s
 | 0,i,s,0,h,h'=>rfl
 | 0,i,s,m+1,h,h'=>by obtain rfl:=Z8.1 (Nat.le_zero.1 h);rfl
 | n+1,i,s,0,h,h'=>by obtain rfl:=Z8.1 (Nat.le_zero.1 h');rfl
 | n+1,i,[],m+1,h,h'=>rfl
 | n+1,i,b::t,m+1,h,h'=>by
  simp only [J6] at h h';rw [pO,pO];split;exact sF n _ t m (by omega) (by omega);split;rename_i hb;have hr:1<=Q7 (λc=>c != 10) (b::t):=by rw [Q7,if_pos (by rw [hb];decide)];omega
  exact sF n _ _ m (by simp;omega) (by simp;omega);cases ht:kX (b::t) with
  | none=>rfl
  | some p=>obtain⟨k,l⟩:=p;have:=(wT ht).1;simp only;rw [sF n (i+l) ((b::t).drop l) m (by simp;omega) (by simp;omega)]
def nY (i:Nat)(s:By):Sum Nat (List Tok):=pO s.length i s
theorem Hu (i:Nat):nY i []=.inr []:=rfl
theorem Sz {i:Nat}{b:UInt8}{t:By}(h:b=32∨b=10):nY i (b::t)=nY (i+1) t:=by show pO (t.length+1) i (b::t)=_;rw [pO,if_pos h];rfl
theorem Wo {i:Nat}{t:By}:nY i (35::t)=nY (i+Q7 (λc=>c != 10) (35::t)) ((35::t).drop (Q7 (λc=>c != 10) (35::t))):=by
 show pO (t.length+1) i (35::t)=_;rw [pO,if_neg (by decide),if_pos rfl];have a:1<=Q7 (λc=>c != 10) (35::t):=by rw [Q7,if_pos (by decide)];omega
 exact sF _ _ _ _ (by simp;omega) (aP _)
theorem Zf {i:Nat}{b:UInt8}{t:By}(h:¬(b=32∨b=10))(a:b≠35)(c:kX (b::t)=none):nY i (b::t)=.inl i:=by show pO (t.length+1) i (b::t)=_;rw [pO,if_neg h,if_neg a,c]
theorem Qk {i k l:Nat}{b:UInt8}{t:By}(h:¬(b=32∨b=10))(h1:b≠35)(ht:kX (b::t)=some (k,l)):nY i (b::t)=match nY (i+l) ((b::t).drop l) with
  | .inl j=>.inl j
  | .inr ts=>.inr ((k,(b::t).take l)::ts):=by
 show pO (t.length+1) i (b::t)=_;have:=(wT ht).1;rw [pO,if_neg h,if_neg h1,ht];simp only;rw [sF t.length (i+l) ((b::t).drop l) ((b::t).drop l).length (by simp;omega) (aP _)];rfl
theorem CV (s:By)(i:Nat)(h:i<s.length):((s[i]).toNat<128∧Utf8.decode ⟨s.toArray⟩ i=((s[i]).toNat,1))∨
  (128<=(s[i]).toNat∧128<=(Utf8.decode ⟨s.toArray⟩ i).1∧(Utf8.decode ⟨s.toArray⟩ i).1<2147483648∧1<=(Utf8.decode ⟨s.toArray⟩ i).2∧i+(Utf8.decode ⟨s.toArray⟩ i).2<=s.length∧
   ∀j (hj:j<s.length),i<=j->j<i+(Utf8.decode ⟨s.toArray⟩ i).2->128<=(s[j]).toNat):=by
 have g:∀k (d:i+k<s.length),(ByteArray.get! ⟨s.toArray⟩ (i+k)).toNat=(s[i+k]).toNat:=λk d=>by show ((s.toArray)[i+k]!).toNat=_;rw [getElem!_pos s.toArray (i+k) (by simpa using d)];simp
 have n:=g 0 (by omega);simp only [Y7] at n;have c:∀k,(decide (i+k<ByteArray.size ⟨s.toArray⟩)&&(ByteArray.get! ⟨s.toArray⟩ (i+k)).toNat / 64==2)=true->∃d:i+k<s.length,(s[i+k]).toNat / 64=2:=λk d=>by
  simp only [l9,decide_eq_true_eq,beq_iff_eq] at d;have a:i+k<s.length:=by simpa [ByteArray.size] using d.1
  exact⟨a,by rw [← g k a];exact d.2⟩
 have u:=UInt8.toNat_lt s[i];unfold Utf8.decode;simp only [Y7,n];by_cases h0:(s[i]).toNat<128;left;exact⟨h0,by rw [if_pos h0]⟩;right;rw [if_neg h0];have l:∀j (hj:j<s.length),i<=j->j<i+1->128<=(s[j]).toNat:=λj hj a b=>by
  obtain rfl:j=i:=by omega
  omega
 have f:∀{p:Nat×Nat},p=(Utf8.runeError,1)->(128<=p.1∧p.1<2147483648∧1<=p.2∧i+p.2<=s.length∧∀j (hj:j<s.length),i<=j->j<i+p.2->128<=(s[j]).toNat):=λh=>by subst h;exact⟨by decide,by decide,by decide,by show i+1<=_;omega,l⟩
 refine⟨by omega,?_⟩;split;rename_i a;rw [l9] at a;obtain⟨o,m⟩:=c 1 a.2;split;rename_i b;refine⟨b,?_,(by show 1<=2;omega),by show i+2<=_;omega,λj hj q e=>?_⟩;show _ + _<2147483648;omega;have:j=i∨j=i+1:=by simp only at e;omega
 rcases this with rfl | rfl;omega;omega;exact f rfl;split;rename_i a;rw [l9,l9] at a;obtain⟨o,m⟩:=c 1 a.1.2;obtain⟨t,r⟩:=c 2 a.2;split;rename_i b;rw [l9,decide_eq_true_eq] at b;refine⟨gI (by decide) b.1,?_,(by show 1<=3;omega),by show i+3<=_;omega,λj hj q e=>?_⟩;show _ + _ + _<2147483648;omega;have:j=i∨j=i+1∨j=i+2:=by simp only at e;omega
 rcases this with rfl | rfl | rfl<;>omega
 exact f rfl;split;rename_i a;rw [l9,l9,l9] at a;obtain⟨o,m⟩:=c 1 a.1.1.2;obtain⟨t,r⟩:=c 2 a.1.2;obtain⟨w,v⟩:=c 3 a.2;split;rename_i b;rw [l9,decide_eq_true_eq] at b;refine⟨gI (by decide) b.1,?_,(by show 1<=4;omega),by show i+4<=_;omega,λj hj q e=>?_⟩;show _ + _ + _ + _<2147483648;omega;have:j=i∨j=i+1∨j=i+2∨j=i+3:=by simp only at e;omega
 rcases this with rfl | rfl | rfl | rfl<;>omega
 exact f rfl;exact f rfl
def MZ (a:Nat)(s:By):Nat:=s.foldl (λn b=>10*n+(b.toNat-48)) a
theorem Ui:∀(s:By) (a:Nat),a<=MZ a s
 | [],a=>aP _
 | b::s,a=>by have:=Ui s (10*a+(b.toNat-48));show a<=MZ (10*a+(b.toNat-48)) s;omega
theorem KF:∀(s:By) (a:Nat),(∀b∈s,bD b=true)->a<18446744073709551616->
  (MZ a s<18446744073709551616∧Lib.parseUint10 a s=.ok (MZ a s))∨(18446744073709551616<=MZ a s∧Lib.parseUint10 a s=.range)
 | [],a,_,h=>.inl ⟨h,rfl⟩
 | b::s,a,hd,h=>by have hb:=hd b (by simp);simp only [bD,l9,decide_eq_true_eq] at hb;have e:MZ a (b::s)=MZ (10*a+(b.toNat-48)) s:=rfl;have hge:=Ui s (10*a+(b.toNat-48));rw [Lib.parseUint10,if_pos ⟨hb.1,hb.2⟩,e];by_cases h1:1844674407370955162<=a;rw [if_pos h1];right;exact⟨by omega,rfl⟩;rw [if_neg h1];by_cases h2:18446744073709551616<=a*10+(b.toNat-48);rw [if_pos h2];right;exact⟨by omega,rfl⟩;rw [if_neg h2,adV a 10];exact KF s _ (λc hc=>hd c (by simp [hc])) (by omega)
theorem Hw (s:By)(f:s≠[])(g:∀b∈s,bD b=true):
  (nX s<9223372036854775808∧Lib.atoiAll s=.ok (nX s:Int))∨(9223372036854775808<=nX s∧Lib.atoiAll s=.range):=by
 match s,f with
 | c::r,_=>
  have h:=g c (by simp);simp only [bD,l9,decide_eq_true_eq] at h;have a:¬(c.toNat=43∨c.toNat=45):=by omega
  have d:¬c.toNat=45:=by omega
  have e:nX (c::r)=MZ 0 (c::r):=rfl;rw [Lib.atoiAll];simp only [if_neg a];rw [Lib.parseMag,if_neg (by simp),e];rcases KF (c::r) 0 g (by omega) with⟨h1,h2⟩ | ⟨h1,h2⟩;rw [h2];simp only [d,not_false_eq_true,true_and,false_and,if_false];by_cases h3:9223372036854775808<=MZ 0 (c::r);rw [if_pos h3];exact .inr ⟨h3,rfl⟩;rw [if_neg h3];exact .inl ⟨by omega,rfl⟩;rw [h2];exact .inr ⟨by omega,rfl⟩
theorem Uj (p:UInt8->Bool)(s:By):∀b∈s.take (Q7 p s),p b=true:=by
 intro b c;obtain⟨i,d,rfl⟩:=List.getElem_of_mem c;have a:i<Q7 p s:=by have:=mK p s;simp at d;omega
 rw [aj2];exact Bl p s i (by have:=mK p s;omega) a
abbrev nS:o7:=.nilSlice
abbrev iV (a:Int):o7:=.int .i64 a
abbrev r4 (a b:Int)(c:List UInt8)(d:o7):List o7:=[.int .i64 a,.int .i64 b,.str c,d]
abbrev r5 (a:Int)(b:List UInt8)(c d e:o7):List o7:=[.int .i64 a,.str b,c,d,e]
abbrev r6 (a b:Int)(c:List UInt8)(d:o7)(e:Int)(f:Bool):List o7:=[.int .i64 a,.int .i64 b,.str c,d,.int .i64 e,.bool f]
abbrev r7 (a:Int)(b:List UInt8)(c d e:o7)(f:Int)(g:Bool):List o7:=[.int .i64 a,.str b,c,d,e,.int .i64 f,.bool g]
abbrev r3 (a:o7)(b:Int)(c:Bool):List o7:=[a,.int .i64 b,.bool c]
attribute [simp] nS iV r3 r4 r5 r6 r7 mU dS vv af5 abp Yx Mq VJ iY eX
attribute [simp] I J S U Z A V tt ff zM zaf zar QU
abbrev Wp (a0 a1 a2 a3:o7):T o7:=(.nd (.nd (.nd .e a3 .e) a1 .e) a0 (.nd .e a2 .e))
abbrev nV5 (a0 a1 a2 a3 a4:o7):T o7:=(.nd (.nd (.nd .e a3 .e) a1 .e) a0 (.nd (.nd .e a4 .e) a2 .e))
abbrev nV6 (a0 a1 a2 a3 a4 a5:o7):T o7:=(.nd (.nd (.nd .e a3 .e) a1 (.nd .e a5 .e)) a0 (.nd (.nd .e a4 .e) a2 .e))
abbrev nV7 (a0 a1 a2 a3 a4 a5 a6:o7):T o7:=(.nd (.nd (.nd .e a3 .e) a1 (.nd .e a5 .e)) a0 (.nd (.nd .e a4 .e) a2 (.nd .e a6 .e)))
abbrev BL (a0 a1 a2 a3 a4 a5 a6 a7:o7):T o7:=(.nd (.nd (.nd (.nd .e a7 .e) a3 .e) a1 (.nd .e a5 .e)) a0 (.nd (.nd .e a4 .e) a2 (.nd .e a6 .e)))
abbrev nV9 (a0 a1 a2 a3 a4 a5 a6 a7 a8:o7):T o7:=(.nd (.nd (.nd (.nd .e a7 .e) a3 .e) a1 (.nd .e a5 .e)) a0 (.nd (.nd (.nd .e a8 .e) a4 .e) a2 (.nd .e a6 .e)))
abbrev zG (a0 a1 a2 a3 a4 a5 a6 a7 a8 a9:o7):T o7:=(.nd (.nd (.nd (.nd .e a7 .e) a3 .e) a1 (.nd (.nd .e a9 .e) a5 .e)) a0 (.nd (.nd (.nd .e a8 .e) a4 .e) a2 (.nd .e a6 .e)))
abbrev abO (a0 a1 a2 a3 a4 a5 a6 a7 a8 a9 a10:o7):T o7:=(.nd (.nd (.nd (.nd .e a7 .e) a3 .e) a1 (.nd (.nd .e a9 .e) a5 .e)) a0 (.nd (.nd (.nd .e a8 .e) a4 .e) a2 (.nd (.nd .e a10 .e) a6 .e)))
abbrev Jo (a0 a1 a2 a3 a4 a5 a6 a7 a8 a9 a10 a11:o7):T o7:=(.nd (.nd (.nd (.nd .e a7 .e) a3 (.nd .e a11 .e)) a1 (.nd (.nd .e a9 .e) a5 .e)) a0 (.nd (.nd (.nd .e a8 .e) a4 .e) a2 (.nd (.nd .e a10 .e) a6 .e)))
abbrev SA (a0 a1 a2 a3 a4 a5 a6 a7 a8 a9 a10 a11 a12:o7):T o7:=(.nd (.nd (.nd (.nd .e a7 .e) a3 (.nd .e a11 .e)) a1 (.nd (.nd .e a9 .e) a5 .e)) a0 (.nd (.nd (.nd .e a8 .e) a4 (.nd .e a12 .e)) a2 (.nd (.nd .e a10 .e) a6 .e)))
abbrev Zg (a0 a1 a2 a3 a4 a5 a6 a7 a8 a9 a10 a11 a12 a13 a14:o7):T o7:=(.nd (.nd (.nd (.nd .e a7 .e) a3 (.nd .e a11 .e)) a1 (.nd (.nd .e a9 .e) a5 (.nd .e a13 .e))) a0 (.nd (.nd (.nd .e a8 .e) a4 (.nd .e a12 .e)) a2 (.nd (.nd .e a10 .e) a6 (.nd .e a14 .e))))
abbrev Na (a0 a1 a2 a3 a4 a5 a6 a7 a8 a9 a10 a11 a12 a13 a14 a15:o7):T o7:=(.nd (.nd (.nd (.nd (.nd .e a15 .e) a7 .e) a3 (.nd .e a11 .e)) a1 (.nd (.nd .e a9 .e) a5 (.nd .e a13 .e))) a0 (.nd (.nd (.nd .e a8 .e) a4 (.nd .e a12 .e)) a2 (.nd (.nd .e a10 .e) a6 (.nd .e a14 .e))))
abbrev Wq (a0 a1 a2 a3 a4 a5 a6 a7 a8 a9 a10 a11 a12 a13 a14 a15 a16:o7):T o7:=(.nd (.nd (.nd (.nd (.nd .e a15 .e) a7 .e) a3 (.nd .e a11 .e)) a1 (.nd (.nd .e a9 .e) a5 (.nd .e a13 .e))) a0 (.nd (.nd (.nd (.nd .e a16 .e) a8 .e) a4 (.nd .e a12 .e)) a2 (.nd (.nd .e a10 .e) a6 (.nd .e a14 .e))))
abbrev abP (a0 a1 a2 a3 a4 a5 a6 a7 a8 a9 a10 a11 a12 a13 a14 a15 a16 a17:o7):T o7:=(.nd (.nd (.nd (.nd (.nd .e a15 .e) a7 .e) a3 (.nd .e a11 .e)) a1 (.nd (.nd (.nd .e a17 .e) a9 .e) a5 (.nd .e a13 .e))) a0 (.nd (.nd (.nd (.nd .e a16 .e) a8 .e) a4 (.nd .e a12 .e)) a2 (.nd (.nd .e a10 .e) a6 (.nd .e a14 .e))))
attribute [simp] Wp nV5 nV6 nV7 BL nV9 zG abO Jo SA Zg Na Wq abP
theorem dF {m:Mem}(a:m.Ok)(d:m.lim<=m.nx):(∀(m:Mem) b,m.new b=ext m [b])∧(∀(m:Mem) l l',ext (ext m l) l'=ext m (l++l'))∧(∀l,(ext m l).get m.nx=l[0]?)∧(∀l c,(ext m l).get (m.nx+c)=l[c]?)∧
  (∀(β:Type) l c off vs (k:Mem->Option β),storeAt (ext m l) (m.nx+c) off vs k=bi (N7 vs) (ob (Go.AM.wF l[c]? off vs) λb=>k (ext m (l.set c b))) none)∧
  (∀(β:Type) l off vs (k:Mem->Option β),storeAt (ext m l) m.nx off vs k=bi (N7 vs) (ob (Go.AM.wF l[0]? off vs) λb=>k (ext m (l.set 0 b))) none)∧
  (∀(l:List P9) c b,c<l.length->(ext m l).set (m.nx+c) b=ext m (l.set c b))∧∀(l:List P9) b,0<l.length->(ext m l).set m.nx b=ext m (l.set 0 b):=
 ⟨D7,F6,F7 a,bR a,λβ l c off vs k=>CF a d l c off vs k,λβ l off vs k=>wH a d l off vs k,qM a,AV a⟩
theorem fE {α:Type}:(∀a b:List α,(a++b).length=a.length+b.length)∧(∀(x:α) l,(x::l).length=l.length+1)∧([]:List α).length=0:=⟨λ_ _=>J9,λ_ _=>rfl,rfl⟩
theorem jr {α:Type}:(∀a b c:List α,a++b++c=a++(b++c))∧(∀(x:α) l l',x::l++l'=x::(l++l'))∧∀l:List α,[]++l=l:=⟨aao,λ_ _ _=>rfl,λ_=>rfl⟩
section
variable {m m':Mem}{S:Nat->Prop}(E:Ext m m')
include E
theorem rsE {rs:Nat}{v:o7}{l:List (List o7)}(h:rD m S rs v l):rD m' S rs v l:=h.mono E.nx (λi a _=>E.old i a) (λ_ _ h=>h)
theorem NR {e:Ex}{r:List o7}(h:aS m S e r):aS m' S e r:=aS.mono E.nx (λi a _=>E.old i a) (λ_ _ h=>h) _ _ h
theorem Ql {e:List Ex}{r:List (List o7)}(h:I7 m S e r):I7 m' S e r:=I7.mono E.nx (λi a _=>E.old i a) (λ_ _ h=>h) _ _ h
theorem abQ {e:V4}{r:List o7}(h:nI m S e r):nI m' S e r:=nI.mono E.nx (λi a _=>E.old i a) (λ_ _ h=>h) _ _ h
theorem Ev {e:List V4}{r:List (List o7)}(h:I4 m S e r):I4 m' S e r:=I4.mono E.nx (λi a _=>E.old i a) (λ_ _ h=>h) _ _ h
end
theorem sB {m:Mem}{id:Nat}(h:m.lim<=id)(β:Type)(off:Nat)(a:List o7)(k:Mem->Option β):storeAt m id off a k=bi (N7 a) (ob (wF (m.get id) off a) λb=>k (m.set id b)) none:=pJ h off a k
theorem Jp {m:Mem}{rs:Nat}{v:o7}{l:List (List o7)}(h:fT m rs v l)(β:Type)(p:o7->β)(q:β):dW v p q=q:=h.nN p q
def Uk (f:Nat):Bool:=Nat.beq f 7||(Nat.beq f 48||(Nat.beq f 50||(Nat.beq f 114||Nat.beq f 187)))
def apW (f:FuncId):Option aW:=(fns f).map λsf=>{sf with pure:=Uk f}
def Bn (s:List UInt8):BX:=match Lib.atoiAll s with
 | .ok v=>⟨.tuple [.int .i64 v,.nilIface],[]⟩
 | .range=>⟨.tuple [.int .i64 (Lib.atoiSat s),.iface 249 (.ptr base.nx 0)],[.dead]⟩
 | _=>⟨.tuple [.int .i64 0,.iface 249 (.ptr base.nx 0)],[.dead]⟩
def abR (f:FuncId)(args:List o7)(bs:List NB):Option BX:=match bs with
 | []=>match args with
  | [.str s]=>if s.length<1000000 then (if f=48 then some (Bn s) else none) else none
  | [.str s,.str [c]]=>if f=50 then some ⟨.bool (MG c s),[]⟩ else none
  | [.int .i64 n]=>if f=187∧0<=n∧n<=9223372036854775807 then some ⟨.str (Lib.itoa n),[]⟩ else none
  | _=>none
 | _=>none
def zH (f:FuncId)(args:List o7)(bs:List NB):Option BX:=if f=7 then sumOf [⟨7,[],[],.bool true,[]⟩] f args bs else if f=114 then YD 94 375 114 13 f args bs else abR f args bs
def apX (f:FuncId)(args:List o7)(m:Mem):dU:=bi (Nat.beq f 83) (EL args m) (bi (Nat.beq f 97) (dD args m) none)
def KW:Known:=⟨apW,base,zH,apX⟩
theorem enter {n fu:Nat}{f:FuncId}{sf:aW}{c:List o7}{m:Mem}(h:fns f=some sf)(e:Uk f=false)(d:Nat.beq f 97=false:=by rfl)(b:Nat.beq f 83=false:=by rfl):
  r9 KW fu (n+1) (.func f) c m=mU (r9 KW fu n) (qz KW (r9 KW fu n) fu) fu sf c m:=by
 rw [eT];have h:KW.fns f=some {sf with pure:=false}:=by show (fns f).map _=_;rw [h,e];rfl
 have a:KW.eff f c m=none:=by show bi (Nat.beq f 83) _ (bi (Nat.beq f 97) _ none)=none;rw [d,b];rfl
 simp only [h,a,O0,U5];rfl
theorem CW {n fu:Nat}{f:FuncId}{sf:aW}{c:List o7}{m:Mem}(h:fns f=some sf)(e:Uk f=true)(d:Nat.beq f 97=false:=by rfl)(b:Nat.beq f 83=false:=by rfl):
  r9 KW fu (n+1) (.func f) c m=jD KW (r9 KW fu n) fu f {sf with pure:=true} c m:=by
 rw [eT];have h:KW.fns f=some {sf with pure:=true}:=by show (fns f).map _=_;rw [h,e];rfl
 have a:KW.eff f c m=none:=by show bi (Nat.beq f 83) _ (bi (Nat.beq f 97) _ none)=none;rw [d,b];rfl
 simp only [h,a,O0];rfl
theorem Eb {lo:Nat}{l:List o7}(m:Mem)(b:rJ lo l=[])(c:∀r,lq r l=some l):iG lo l m=some ⟨[],l,[]⟩:=by show ob (reach m lo (99999+1) (rJ lo l) []) _=_;rw [b,GY];show ob (lq (uS lo []) l) (λd=>ob (some []) λa=>some (⟨[],d,a⟩:CO))=_;rw [c];rfl
theorem Ws (n fu:Nat)(m:Mem):r9 KW fu (n+1) (.func 7) [] m=some [⟨.bool true,m⟩]:=by
 obtain⟨sf,b⟩:∃sf,fns 7=some sf:=⟨_,rfl⟩;rw [CW (sf:=sf) b rfl,xP (K:=KW) (c:=⟨[],[],[]⟩) (a:=⟨.bool true,[]⟩) (Eb m rfl λ_=>rfl)
  (by show zH 7 [] []=_;rw [zH,if_pos rfl];rfl)]
 rfl
theorem Qm (s:List UInt8)(c:UInt8)(n fu:Nat)(m:Mem):r9 KW fu (n+1) (.func 50) [.str s,.str [c]] m=some [⟨.bool (MG c s),m⟩]:=by
 obtain⟨sf,b⟩:∃sf,fns 50=some sf:=⟨_,rfl⟩;rw [CW (sf:=sf) b rfl,xP (K:=KW) (c:=⟨[],[.str s,.str [c]],[]⟩) (a:=⟨.bool (MG c s),[]⟩) (Eb m rfl λ_=>rfl)
  (by show zH 50 [.str s,.str [c]] []=_;rw [zH,if_neg (by decide),if_neg (by decide)];simp [abR])]
 rfl
theorem abS (i:Int)(h0:0<=i)(d:i<=9223372036854775807)(n fu:Nat)(m:Mem):r9 KW fu (n+1) (.func 187) [.int .i64 i] m=some [⟨.str (Lib.itoa i),m⟩]:=by
 obtain⟨sf,b⟩:∃sf,fns 187=some sf:=⟨_,rfl⟩;rw [CW (sf:=sf) b rfl,xP (K:=KW) (c:=⟨[],[.int .i64 i],[]⟩) (a:=⟨.str (Lib.itoa i),[]⟩) (zA m rfl λ_=>rfl)
  (by show zH 187 [.int .i64 i] []=_;rw [zH,if_neg (by decide),if_neg (by decide)];show (if 187=187∧0<=i∧i<=9223372036854775807 then _ else _)=_;rw [if_pos ⟨rfl,h0,d⟩])]
 rfl
theorem abT {lo:Nat}(f:13<=lo){m:Mem}{v:o7}{l:List (List UInt8)}(h:uW lo m v l)(d:List UInt8)(i:l.length<1000000)(g:(aI d l).length<1000000)(n fu:Nat):
  r9 KW fu (n+1) (.func 114) [v,.str d] m=some [⟨.str (aI d l),m⟩]:=by
 obtain⟨sf,e⟩:∃sf,fns 114=some sf:=⟨_,rfl⟩;rcases aiR h (b:=base.nx) f d with⟨rfl,hc⟩ | ⟨id,hne,hc⟩;rw [CW (sf:=sf) e rfl,xP (K:=KW) (c:=⟨[],[.nilSlice,.str d],[]⟩) (a:=⟨.str [],[]⟩) hc
  (by show zH 114 [.nilSlice,.str d] []=_;rw [zH,if_neg (by decide),if_pos rfl];rfl)]
 rfl;rw [CW (sf:=sf) e rfl,xP (K:=KW) (c:=⟨[id],[.sliceU base.nx 0 l.length 1,.str d],[.cells 1 (l.map λw=>[.str w])]⟩) (a:=⟨.str (aI d l),[]⟩) hc
  (by show zH 114 [.sliceU base.nx 0 l.length 1,.str d] [.cells 1 (l.map λw=>[o7.str w])]=_;rw [zH,if_neg (by decide),if_pos rfl];exact VZ rfl rfl i g)]
 rfl
theorem Ul (s:List UInt8)(hs:s.length<1000000)(n fu:Nat)(m:Mem)(g:m.Ok):∃v e m',r9 KW fu (n+1) (.func 48) [.str s] m=some [⟨.tuple [.int .i64 v,e],m'⟩]∧Ext m m'∧
  ((Lib.atoiAll s=.ok v∧e=.nilIface)∨((∀x,Lib.atoiAll s≠.ok x)∧∃p,e=.iface 249 (.ptr p 0))):=by
 obtain⟨sf,i⟩:∃sf,fns 48=some sf:=⟨_,rfl⟩;have b:r9 KW fu (n+1) (.func 48) [.str s] m=ob (fK (iD base.nx [] m.nx) (Bn s).v) λv=>ob (uF (iD base.nx [] m.nx) (Bn s).bs) λf=>one v (layAll f m):=by
  rw [CW (sf:=sf) i rfl,xP (K:=KW) (c:=⟨[],[.str s],[]⟩) (a:=Bn s) (zA m rfl λ_=>rfl)
   (by show zH 48 [.str s] []=_;rw [zH,if_neg (by decide),if_neg (by decide)];show (if s.length<1000000 then _ else _)=_;rw [if_pos hs,if_pos rfl])]
  rfl
 have d:∀k:Int,ob (fK (iD base.nx [] m.nx) (.tuple [.int .i64 k,.iface 249 (.ptr base.nx 0)])) (λv=>ob (uF (iD base.nx [] m.nx) [.dead]) λf=>one v (layAll f m))=some [⟨.tuple [.int .i64 k,.iface 249 (.ptr m.nx 0)],m.new .dead⟩]:=λk=>by show ob (ob (ob (some (o7.int .i64 k)) λx=>ob (ob (ob (ob (iD base.nx [] m.nx base.nx) λj=>some (o7.ptr j 0)) λx=>some (o7.iface 249 x)) λx=>ob (some []) λy=>some (x::y)) λy=>some (x::y)) λx=>some (o7.tuple x)) (λv=>ob (some [NB.dead]) λf=>one v (layAll f m))=_;rw [Sn];rfl
 cases h:Lib.atoiAll s with
 | ok v=>refine⟨v,.nilIface,m,?_,Ext.refl g,.inl ⟨rfl,rfl⟩⟩;rw [b];simp only [Bn,h];rfl
 | range=>refine⟨Lib.atoiSat s,.iface 249 (.ptr m.nx 0),m.new .dead,?_,(Ext.refl g).new _,.inr ⟨(λx (l:Lib.NumEnd.range=.ok x)=>by cases l),m.nx,rfl⟩⟩;rw [b];simp only [Bn,h];exact d _
 | _=>refine⟨0,.iface 249 (.ptr m.nx 0),m.new .dead,?_,(Ext.refl g).new _,.inr ⟨(by intro x l;cases l),m.nx,rfl⟩⟩;rw [b];simp only [Bn,h];exact d 0
set_option maxRecDepth 100000
set_option maxHeartbeats 4000000
theorem Hy (b:UInt8)(n fu:Nat)(m:Mem):r9 KW fu (n+1) (.func 45) [.int .u8 (b.toNat:Nat)] m=some [⟨.bool (jq b),m⟩]:=by
 rw [enter (sf:=f45) rfl rfl];have a:decide ((97:Int)<=((b.toNat:Nat):Int))=decide (97<=b.toNat):=by rw [aaH];simp only [decide_eq_true_eq];omega
 have c:decide (((b.toNat:Nat):Int)<=(122:Int))=decide (b.toNat<=122):=by rw [aaH];simp only [decide_eq_true_eq];omega
 by_cases h:97<=b.toNat<;>simp [f45,jq,a,c,h]
theorem Nb (b:UInt8)(n fu:Nat)(m:Mem):r9 KW fu (n+1) (.func 47) [.int .u8 (b.toNat:Nat)] m=some [⟨.bool (bD b),m⟩]:=by
 rw [enter (sf:=f47) rfl rfl];have a:decide ((48:Int)<=((b.toNat:Nat):Int))=decide (48<=b.toNat):=by rw [aaH];simp only [decide_eq_true_eq];omega
 have c:decide (((b.toNat:Nat):Int)<=(57:Int))=decide (b.toNat<=57):=by rw [aaH];simp only [decide_eq_true_eq];omega
 by_cases h:48<=b.toNat<;>simp [f47,bD,a,c,h]
theorem afG (b:UInt8)(n fu:Nat)(m:Mem):r9 KW fu (n+2) (.func 46) [.int .u8 (b.toNat:Nat)] m=some [⟨.bool (uN b),m⟩]:=by rw [enter (sf:=f46) rfl rfl];have a:=Hy b n fu m;have c:=Nb b n fu m;cases h:jq b<;>rw [h] at a<;>simp [f46,uN,a,c,h]
theorem afH (b:UInt8)(n fu:Nat)(m:Mem):r9 KW fu (n+1) (.func 25) [.int .u8 (b.toNat:Nat)] m=some [⟨.bool (b != 10),m⟩]:=by
 rw [enter (sf:=f25) rfl rfl];have e:(!decide (((b.toNat:Nat):Int)=10))=(b != 10):=by rw [aaH];simp only [Bool.not_eq_true',decide_eq_false_iff_not,bne_iff_ne,ne_eq];exact not_congr ⟨λh=>adT.1 (by simp;omega),λh=>by rw [h];rfl⟩
 simp [f25,e]
theorem abU {m:Mem}{g:FuncId}{p:UInt8->Bool}{n fu:Nat}(s:By)(hs:s.length<=100000)(o:∀b,r9 KW fu n (.func g) [.int .u8 (b.toNat:Nat)] m=some [⟨.bool (p b),m⟩]):
  ∀(j i:Nat),i+j=Q7 p s->∀(c:o7) (N:Nat),j+1<=N->
  ∃c',K8 (λenv m k=>Kv (r9 KW fu n) fu none env m k) N (nV5 (iV (i:Int)) (.str s) (.func (.func g) [] []) c (iV 0)) m []=some [⟨.exit 0,(nV5 (iV (Q7 p s:Int)) (.str s) (.func (.func g) [] []) c' (iV 0)),m,[],none⟩]:=by
 have v:=mK p s;intro j;induction j with
 | zero=>
  intro i u c N t;obtain⟨N,rfl⟩:∃k,N=k+1:=⟨N-1,by omega⟩;obtain rfl:i=Q7 p s:=by omega
  refine⟨.bool false,?_⟩;rw [A8];by_cases a:Q7 p s<s.length;have q:=λx lo ls env h d=>Bg (x:=x) (lo:=lo) (ls:=ls) (env:=env) (s:=s) (l:=Q7 p s) h d a;have e:decide ((Q7 p s:Int)<(s.length:Int))=true:=decide_eq_true (by omega);have f:=o s[Q7 p s];rw [Ht p s a] at f;simp [Kv,e,a,q,f];have e:decide ((Q7 p s:Int)<(s.length:Int))=false:=decide_eq_false (by omega);simp [Kv,e,a]
 | succ j ih=>
  intro i u c N t;obtain⟨N,rfl⟩:∃k,N=k+1:=⟨N-1,by omega⟩;have a:i<s.length:=by omega
  have q:=λx lo ls env h d=>Bg (x:=x) (lo:=lo) (ls:=ls) (env:=env) (s:=s) (l:=i) h d a;have e:decide ((i:Int)<(s.length:Int))=true:=decide_eq_true (by omega);have f:=o s[i];rw [Bl p s i a (by omega)] at f;obtain⟨c',r⟩:=ih (i+1) (by omega) tt N (by omega);refine⟨c',?_⟩;rw [A8,← r];simp [Kv,e,a,q,f,aF (i:=i) (by omega)]
theorem SE {m:Mem}{g:FuncId}{p:UInt8->Bool}{n fu:Nat}(s:By)(hs:s.length<=100000)(f:∀b,r9 KW fu n (.func g) [.int .u8 (b.toNat:Nat)] m=some [⟨.bool (p b),m⟩])(e:s.length+1<=fu):
  r9 KW fu (n+1) (.func 24) [.str s,.func (.func g) [] []] m=some [⟨iV (Q7 p s:Int),m⟩]:=by
 have h:=mK p s;obtain⟨i,d⟩:=abU (m:=m) (n:=n) (fu:=fu) s hs f (Q7 p s) 0 (by omega) .undef fu (by omega);have c:K8 (λa m k=>Kv (r9 KW fu n) fu none a m k) fu (nV5 (iV 0) (.str s) (.func (.func g) [] []) .undef (iV 0)) m []=_:=d;rw [enter (sf:=f24) rfl rfl];simp [f24,c]
theorem afI (s t:By)(n fu:Nat)(m:Mem):r9 KW fu (n+1) (.func 93) [.str s,.str t] m=some [⟨.bool (decide (s.take t.length=t)),m⟩]:=by
 rw [enter (sf:=f93) rfl rfl];by_cases h:t.length<=s.length;have q:=λx hi ls env d c=>Bf (x:=x) (hi:=hi) (ls:=ls) (env:=env) (s:=s) (h:=t.length) d c h;have a:decide ((t.length:Int)<=(s.length:Int))=true:=decide_eq_true (by omega);simp [f93,a,h,q];have a:decide ((t.length:Int)<=(s.length:Int))=false:=decide_eq_false (by omega);have b:¬ s.take t.length=t:=λe=>by have:=congrArg List.length e;simp at this;omega
 simp [f93,a,h,b]
theorem afJ (s t:By)(n fu:Nat)(m:Mem):r9 KW fu (n+2) (.func 49) [.str s,.str t] m=some [⟨.bool (decide (s.take t.length=t)),m⟩]:=by rw [enter (sf:=f49) rfl rfl];simp [f49,afI]
def EU:List By:=[[60,61],[62,61],[61,61],[33,61]]
theorem Zh {m:Mem}(b:m.Ok)(l:List o7):mZ (m.new (.cells 1 l.length (T.ofList (l.map ([·]))))) (.slice m.nx 0 l.length l.length) l:=
 .inr ⟨m.nx,0,.inl ⟨_,rfl,aP _⟩,by simp,.inr ⟨l.length,T.ofList (l.map ([·])),by rw [Mem.K6 b,if_pos rfl],by simp,λi a=>by rw [Z9,T.au];simp [a]⟩⟩
theorem abV {M:Mem}{p n fu:Nat}{v:o7}(s:By)(A:M.get p=some (o9 [iV 0,.str []]))(D:M.lim<=p)(E:mZ M v (strs EU)):
  ∀(j i:Nat),i+j=4->∀(c x y:o7) (N:Nat),j+1<=N->
  ∃c' x' y' i',K8 (λenv m k=>Kw (r9 KW fu (n+2)) fu none env m k) N (Zg (.str s) ff .undef (.ptr p 0) ff .undef .undef .undef (iV (i:Int)) (iV 4) c v x y ff) M [] =
   bi ((EU.drop i).any λt=>decide (s.take 2=t)) (some [⟨.ret,(Zg (.str s) ff .undef (.ptr p 0) ff .undef .undef .undef (iV (i':Int)) (iV 4) c' v x' y' tt),M.set p (o9 [iV 3,.str (s.take 2)]),[],none⟩])
    (some [⟨.exit 1,(Zg (.str s) ff .undef (.ptr p 0) ff .undef .undef .undef (iV (i':Int)) (iV 4) c' v x' y' ff),M,[],none⟩]):=by
 have f:EU.length=4:=rfl;have F:=sB D;intro j;induction j with
 | zero=>
  intro i C c x y N B;obtain⟨N,rfl⟩:∃k,N=k+1:=⟨N-1,by omega⟩;obtain rfl:i=4:=by omega
  refine⟨.bool false,x,y,4,?_⟩;rw [A8];simp [Kw,EU]
 | succ j ih=>
  intro i C c x y N B;obtain⟨N,rfl⟩:∃k,N=k+1:=⟨N-1,by omega⟩;have b:i<EU.length:=by rw [f];omega
  have o:decide ((i:Int)<(4:Int))=true:=decide_eq_true (by omega);have e:i<4:=by omega
  obtain⟨id,a,h,G,l⟩:=E.at (i:=i) (by rw [wO];omega);have r:(strs EU)[i]'(by rw [wO];exact b)=.str EU[i]:=List.getElem_map ..;rw [r] at l;have u:lG v none (λid a d _=>idx d (iV (i:Int)) λk=>some (o7.ptr id (a+k*1))) (λid a d _=>idx d (iV (i:Int)) λk=>some (o7.ptr id (a+k*1)))=some (.ptr id a):=by simpa using h
  have g:=afJ s EU[i] n fu M;have z:(EU[i]).length=2:=(by decide:∀t∈EU,t.length=2) _ (abD b);rw [z] at g;have q:EU.drop i=EU[i]::EU.drop (i+1):=Z6 b;by_cases ht:s.take 2=EU[i];rw [decide_eq_true ht] at g;refine⟨.bool true,.str EU[i],.bool true,i,?_⟩;rw [A8,q];simp [Kw,o,e,h,l,g,ht,F,A,H6];rw [decide_eq_false ht] at g;obtain⟨c',x',y',i',w⟩:=ih (i+1) (by omega) tt (.str EU[i]) ff N (by omega);refine⟨c',x',y',i',?_⟩;rw [A8,q,List.any_cons,decide_eq_false ht,amx,← w];simp [Kw,o,e,h,l,g,aF (i:=i) (by omega)]
set_option maxHeartbeats 8000000
theorem bs4 (ls:List o7)(env:T o7)(nid:Nat):P7 1 4 [.str []] [(0,1,G6 (.str [60,61])),(1,1,G6 (.str [62,61])),(2,1,G6 (.str [61,61])),(3,1,G6 (.str [33,61]))] ls env nid=some (.slice nid 0 4 4,some (.cells 1 4 (T.ofList ((strs EU).map ([·]))))):=rfl
@[simp] theorem apY:iF .nilIface .nilIface=some true:=_root_.id rfl
@[simp] theorem apZ (t:TypeId)(v:o7):iF (.iface t v) .nilIface=some false:=_root_.id rfl
theorem abW (s:By):(EU.any λt=>decide (s=t))=uO s:=by simp [EU,uO,Bool.or_assoc]
theorem Wt (b:UInt8):MG b ones=ones.contains b:=by
 have:∀l:By,MG b l=l.contains b:=by
  intro l;induction l with
  | nil=>rfl
  | cons c l ih=>show bi (Nat.beq c.toNat b.toNat) true (MG b l)=_;rw [dJ,ih,ajT];by_cases h:b=c;subst h;simp;rw [if_neg (λe=>h (adT.1 e.symm))];simp [h]
 exact this ones
theorem afK {m:Mem}(hm:m.Ok)(hl:m.lim<=m.nx)(b:UInt8)(t:By)(hs:(b::t).length<=100000)(n fu:Nat)(hfu:(b::t).length+10<=fu):
  ∃(k:Int) (tx:By) (ok:Bool) (m':Mem),r9 KW fu (n+4) (.func 26) [.str (b::t)] m=some [⟨.tuple [.agg [iV k,.str tx],.bool ok],m'⟩]∧Ext m m'∧
   match kX (b::t) with
   | none=>ok=false
   | some p=>ok=true∧k=(p.1:Int)∧tx=(b::t).take p.2:=by
 have q0:=λx lo ls env hx hl'=>ML (x:=x) (lo:=lo) (ls:=ls) (env:=env) (b:=b) (t:=t) hx hl';have c45:=Hy b (n+2) fu (ext m [o9 [iV 0,.str []]]);have c47:=Nb b (n+2) fu (ext m [o9 [iV 0,.str []]]);by_cases h1:jq b=true;rw [h1] at c45;have hr:=SE (m:=ext m [o9 [iV 0,.str []]]) (g:=46) (p:=uN) (n:=n+2) (fu:=fu) (b::t) hs (λc=>afG c n fu _) (by omega);have q1:=λx hi ls env hx hh=>Bf (x:=x) (hi:=hi) (ls:=ls) (env:=env) (s:=b::t) (h:=Q7 uN (b::t)) hx hh (mK _ _);refine⟨1,(b::t).take (Q7 uN (b::t)),decide ((Q7 uN (b::t):Int)<=16),ext m [o9 [iV 1,.str ((b::t).take (Q7 uN (b::t)))]],?_,H7 hm _,?_⟩;rw [enter (sf:=f26) rfl rfl];simp [f26,dF hm hl,H6,q0,c45,hr,q1];rw [kX,if_pos h1];by_cases h:Q7 uN (b::t)<=16;rw [if_pos h];exact⟨decide_eq_true (by omega),rfl,rfl⟩;rw [if_neg h];exact decide_eq_false (by omega);have h1':jq b=false:=by simpa using h1
 rw [h1'] at c45;by_cases h2:bD b=true;rw [h2] at c47;have hr:=SE (m:=ext m [o9 [iV 0,.str []]]) (g:=47) (p:=bD) (n:=n+2) (fu:=fu) (b::t) hs (λc=>Nb c (n+1) fu _) (by omega);have hle:=mK bD (b::t);have q1:=λx hi ls env hx hh=>Bf (x:=x) (hi:=hi) (ls:=ls) (env:=env) (s:=b::t) (h:=Q7 bD (b::t)) hx hh hle;obtain⟨v,e,m2,ga,E2,hv⟩:=Ul ((b::t).take (Q7 bD (b::t))) (by simp at hs ⊢;omega) (n+2) fu (ext m [o9 [iV 0,.str []]]) (qW hm _);have hg2:m2.get m.nx=some (o9 [iV 0,.str []]):=by rw [E2.old m.nx (by simp),F7 hm];rfl
 have hn2:m.nx<m2.nx:=J3 (by simp) E2.nx;have hl2:m2.lim<=m.nx:=by rw [E2.lim];simpa using hl
 have st:=sB hl2;have gs:∀B,(m2.set m.nx B).get m.nx=some B:=λB=>D6 E2.ok _ hn2 rfl;have E3:∀B,Ext m (m2.set m.nx B):=λB=>((H7 hm _).trans E2).set hn2 (aP _) B;have hd:=Uj bD (b::t);have hr1:1<=Q7 bD (b::t):=by rw [Q7,if_pos h2];omega
 have hrne:(b::t).take (Q7 bD (b::t))≠[]:=by intro e;have:=congrArg List.length e;simp at this;omega
 have h48:decide (((b.toNat:Nat):Int)=48)=decide (b=48):=by rw [aaH];simp only [decide_eq_true_eq];exact⟨λh=>adT.1 (by simp;omega),λh=>by rw [h];rfl⟩
 have hn1:decide ((Q7 bD (b::t):Int)=1)=decide (Q7 bD (b::t)=1):=by rw [aaH];simp only [decide_eq_true_eq];omega
 rcases hv with⟨hok,rfl⟩ | ⟨hno,p,rfl⟩;have hval:nX ((b::t).take (Q7 bD (b::t)))<9223372036854775808∧v=(nX ((b::t).take (Q7 bD (b::t))):Int):=by rcases Hw _ hrne hd with⟨a1,a2⟩ | ⟨a1,a2⟩;rw [a2] at hok;injection hok with hok;exact⟨a1,hok.symm⟩;rw [a2] at hok;cases hok
 by_cases h3:v<=9007199254740992;refine⟨2,(b::t).take (Q7 bD (b::t)),(!decide (b=48))||decide (Q7 bD (b::t)=1),m2.set m.nx (o9 [iV 2,.str ((b::t).take (Q7 bD (b::t)))]),?_,E3 _,?_⟩;rw [enter (sf:=f26) rfl rfl];have e3:decide (v<=9007199254740992)=true:=decide_eq_true h3;cases h4:decide (b=48)<;>rw [h4] at h48<;>simp only [decide_eq_true_eq,decide_eq_false_iff_not] at h48
 simp [f26,dF hm hl,H6,q0,c45,c47,hr,q1,ga,st,hg2,e3,h3,h48,hn1,gs];rw [h48] at c45 c47;simp [f26,dF hm hl,H6,q0,c45,c47,hr,q1,ga,st,hg2,e3,h3,h48,hn1,gs];rw [kX,if_neg h1,if_pos h2];by_cases h4:b=48∧1<Q7 bD (b::t);rw [if_pos (.inl h4)];show ((!decide (b=48))||decide (Q7 bD (b::t)=1))=false
 rw [decide_eq_true h4.1,decide_eq_false (by omega)];rfl;rw [if_neg (by rintro (h | h);exact h4 h;omega)]
 refine⟨?_,rfl,rfl⟩;by_cases h5:b=48;have:Q7 bD (b::t)=1:=by have:¬ 1<Q7 bD (b::t):=λh=>h4 ⟨h5,h⟩;omega
 simp [this];simp [h5];refine⟨2,(b::t).take (Q7 bD (b::t)),false,m2.set m.nx (o9 [iV 2,.str ((b::t).take (Q7 bD (b::t)))]),?_,E3 _,?_⟩;rw [enter (sf:=f26) rfl rfl];have e3:decide (v<=9007199254740992)=false:=decide_eq_false h3;simp [f26,dF hm hl,H6,q0,c45,c47,hr,q1,ga,st,hg2,e3,h3,gs];rw [kX,if_neg h1,if_pos h2,if_pos (.inr (by omega))];have hbig:9223372036854775808<=nX ((b::t).take (Q7 bD (b::t))):=by rcases Hw _ hrne hd with⟨a1,a2⟩ | ⟨a1,a2⟩;exact absurd a2 (hno _);exact a1
 refine⟨2,(b::t).take (Q7 bD (b::t)),false,m2.set m.nx (o9 [iV 2,.str ((b::t).take (Q7 bD (b::t)))]),?_,E3 _,?_⟩;rw [enter (sf:=f26) rfl rfl];simp [f26,dF hm hl,H6,q0,c45,c47,hr,q1,ga,st,hg2,gs];rw [kX,if_neg h1,if_pos h2,if_pos (.inr (by omega))];have h2':bD b=false:=by simpa using h2
 rw [h2'] at c47;let M:=ext m [o9 [iV 0,.str []],.cells 1 4 (T.ofList ((strs EU).map ([·])))]
 have hM:M.get m.nx=some (o9 [iV 0,.str []]):=by rw [F7 hm];rfl
 have hv:mZ M (.slice (m.nx+1) 0 4 4) (strs EU):=by have:=Zh (m:=m.new (o9 [iV 0,.str []])) (Mem.Ok.new hm _) (strs EU);exact this
 have hlM:M.lim<=m.nx:=by simpa [M] using hl
 have hOk:M.Ok:=qW hm _;obtain⟨c',x',y',i',gg⟩:=abV (M:=M) (p:=m.nx) (n:=n+1) (fu:=fu) (b::t) hM hlM hv 4 0 rfl .undef .undef .undef fu (by omega);have gg':K8 (λenv m k=>Kw (r9 KW fu (n+3)) fu none env m k) fu (Zg (.str (b::t)) ff .undef (.ptr m.nx 0) ff .undef .undef .undef (iV 0) (iV 4) .undef (.slice (m.nx+1) 0 4 4) .undef .undef ff) M []=_:=gg;rw [show EU.drop 0=EU from rfl,abW] at gg';simp only [M] at gg';by_cases h3:uO ((b::t).take 2)=true;rw [h3] at gg';refine⟨3,(b::t).take 2,true,M.set m.nx (o9 [iV 3,.str ((b::t).take 2)]),?_,(H7 hm _).set (by simp) (aP _) _,?_⟩;rw [enter (sf:=f26) rfl rfl];have gs:∀B,(M.set m.nx B).get m.nx=some B:=λB=>D6 hOk _ (by simp [M]) rfl;simp only [M] at gs;simp [f26,dF hm hl,H6,q0,c45,c47,bs4,gg',gs,M];rw [kX,if_neg h1,if_neg h2,if_pos h3];exact⟨rfl,rfl,rfl⟩;have h3':uO ((b::t).take 2)=false:=by simpa using h3
 rw [h3'] at gg';have q1:=λx hi ls env hx hh=>Bf (x:=x) (hi:=hi) (ls:=ls) (env:=env) (s:=b::t) (h:=1) hx hh (by simp);have hc:=Qm ones b (n+2) fu M;rw [Wt] at hc;simp only [M,ones] at hc;refine⟨3,[b],ones.contains b,M.set m.nx (o9 [iV 3,.str [b]]),?_,(H7 hm _).set (by simp) (aP _) _,?_⟩;rw [enter (sf:=f26) rfl rfl];simp only [ones];simp [f26,dF hm hl,H6,q0,c45,c47,bs4,gg',q1,hc,M,-List.contains_eq_mem,-List.contains_cons,-List.elem_eq_contains];rw [kX,if_neg h1,if_neg h2,if_neg h3];by_cases h4:ones.contains b=true;rw [if_pos h4];exact⟨h4,rfl,rfl⟩;rw [if_neg h4];simpa using h4
theorem qo {m:Mem}(a:m.Ok)(d:m.lim<=m.nx):(∀l:List P9,(ext m l).get m.nx=l[0]?)∧(∀(l:List P9) (c:Nat),(ext m l).get (m.nx+c)=l[c]?)∧
  (∀(β:Type) (l:List P9) (c off:Nat) (vs:List o7) (k:Mem->Option β),storeAt (ext m l) (m.nx+c) off vs k=bi (N7 vs) (ob (wF l[c]? off vs) λb=>k (ext m (l.set c b))) none)∧
  (∀(β:Type) (l:List P9) (off:Nat) (vs:List o7) (k:Mem->Option β),storeAt (ext m l) m.nx off vs k=bi (N7 vs) (ob (wF l[0]? off vs) λb=>k (ext m (l.set 0 b))) none)∧
  (∀(l:List P9) (c:Nat) (b:P9),c<l.length->(ext m l).set (m.nx+c) b=ext m (l.set c b))∧∀(l:List P9) (b:P9),0<l.length->(ext m l).set m.nx b=ext m (l.set 0 b):=
 ⟨F7 a,bR a,λ_=>CF a d,λ_=>wH a d,qM a,AV a⟩
def Brd (s:By)(pos nx:Nat):Prop:=nx<=s.length∧(nx=s.length∨(∀i (h:i<s.length),pos<=i->i<nx->(s[i]).toNat<128)∨∃h:nx<s.length,s[nx]=10)
theorem Brd.mono {s:By}{pos a nx:Nat}(h:Brd s pos nx)(hp:pos<=a):Brd s a nx:=
 ⟨h.1,h.2.imp id (Or.imp (λh i c d b=>h i c (by omega) b) id)⟩
theorem Brd.step {s:By}{pos nx:Nat}(h:Brd s pos nx)(a:pos<s.length)(hp:pos<nx):pos+(Utf8.decode ⟨s.toArray⟩ pos).2<=nx:=by rcases CV s pos a with⟨h1,h2⟩ | ⟨h1,h2,h3,h4,h5,h6⟩;rw [h2];exact hp;rcases h.2 with h7 | h7 | ⟨h7,h8⟩;omega;have:=h7 pos a (aP _) hp;omega;refine adN λb=>?_;have:=h6 nx h7 (by omega) (by omega);rw [h8] at this;exact absurd this (by decide)
def uP (t:Tok):List o7:=[iV (t.1:Nat),.str t.2]
def U6 (l:List Tok):List (List o7):=l.map uP
theorem Qn (l:List Tok)(t:Tok):U6 (l ++ [t])=U6 l ++ [uP t]:=by simp [U6]
theorem Qo {m:Mem}{s:By}{p pos:Nat}(h:m.get p=some (.siter s pos))(b:m.lim<=p)(hp:pos<s.length)(it:OF)(cf:F8)(ls:List o7)(env:T o7)(hi:it ls env=.ptr p 0):
  BR it cf ls env m=some [⟨.tuple [.bool true,iV (pos:Nat),.int .i32 ((Utf8.decode ⟨s.toArray⟩ pos).1:Nat)],m.set p (.siter s (pos+(Utf8.decode ⟨s.toArray⟩ pos).2))⟩]:=by
 show iM (it ls env) (λid a=>bi (Nat.beq a 0) (bi (Nat.blt id m.lim) none (Lb (m.get id) λs pos=>bi (Nat.blt pos (len' s)) _ _)) none)=_;rw [hi,TN,show Nat.beq 0 0=true from rfl,Q9,show Nat.blt p m.lim=false from aa4.2 λe=>by have:=Y3.mp e;omega,U5,h];show bi (Nat.blt pos (len' s)) _ _=_;rw [I9,show Nat.blt pos s.length=true from Y3.mpr hp];rfl
theorem xR {m:Mem}{s:By}{p:Nat}(h:m.get p=some (.siter s s.length))(c:m.lim<=p)(it:OF)(cf:F8)(ls:List o7)(env:T o7)(hi:it ls env=.ptr p 0):
  BR it cf ls env m=some [⟨.tuple [.bool false],m⟩]:=by
 show iM (it ls env) (λid a=>bi (Nat.beq a 0) (bi (Nat.blt id m.lim) none (Lb (m.get id) λs b=>bi (Nat.blt b (len' s)) _ _)) none)=_;rw [hi,TN,show Nat.beq 0 0=true from rfl,Q9,show Nat.blt p m.lim=false from aa4.2 λe=>by have:=Y3.mp e;omega,U5,h];show bi (Nat.blt s.length (len' s)) _ _=_;rw [I9,show Nat.blt s.length s.length=false from aa4.2 λe=>by have:=Y3.mp e;omega];rfl
def jc (s:By)(p:Nat)(acc:List Tok)(M:Mem)(r:Option (List Out))(l:Sum Nat (List Tok)):Prop:=
 (∃(ts:List Tok) (e3 e4 e5 e6 e7 e8 e9 e10 e11 out e13:o7) (M':Mem),l=.inr ts∧r=some [⟨.exit 0,(Wq (.str s) ff (.ptr p 0) e3 e4 e5 e6 e7 e8 e9 e10 e11 out e13 nS (iV 0) (iV 0)),M',[],none⟩]∧Fr (p+1) p M M'∧bZ (p+1) 2 M' out (U6 (acc++ts))∧(acc++ts).length<=s.length)∨
 (∃(j:Nat) (e3 e4 e5 e6 e7 e8 e9 e10 e11 out e13:o7) (M':Mem),l=.inl j∧r=some [⟨.ret,(Wq (.str s) ff (.ptr p 0) e3 e4 e5 e6 e7 e8 e9 e10 e11 out e13 nS (iV 7) (iV (j:Int))),M',[],none⟩]∧Fr (p+1) p M M')
theorem jc.fr {s:By}{p:Nat}{a:List Tok}{M b:Mem}{r:Option (List Out)}{l:Sum Nat (List Tok)}(h:jc s p a b r l)(c:Fr (p+1) p M b):jc s p a M r l:=by rcases h with⟨ts,e3,e4,e5,e6,e7,e8,e9,e10,e11,out,e13,M',h1,h2,h3,h4⟩ | ⟨j,e3,e4,e5,e6,e7,e8,e9,e10,e11,out,e13,M',h1,h2,h3⟩;exact .inl ⟨ts,e3,e4,e5,e6,e7,e8,e9,e10,e11,out,e13,M',h1,h2,c.trans h3,h4⟩;exact .inr ⟨j,e3,e4,e5,e6,e7,e8,e9,e10,e11,out,e13,M',h1,h2,c.trans h3⟩
theorem jc.tok {s:By}{p k l i:Nat}{b:UInt8}{t:By}{a:List Tok}{M:Mem}{r:Option (List Out)}(hb:¬(b=32∨b=10))(c:b≠35)(d:kX (b::t)=some (k,l))
  (h:jc s p (a ++ [(k,(b::t).take l)]) M r (nY (i+l) ((b::t).drop l))):jc s p a M r (nY i (b::t)):=by
 rw [Qk hb c d];rcases h with⟨ts,e3,e4,e5,e6,e7,e8,e9,e10,e11,out,e13,M',c,h2,h3,h4⟩ | ⟨j,e3,e4,e5,e6,e7,e8,e9,e10,e11,out,e13,M',c,h2,h3⟩;rw [c];exact .inl ⟨_,e3,e4,e5,e6,e7,e8,e9,e10,e11,out,e13,M',rfl,h2,h3,by simpa using h4⟩;rw [c];exact .inr ⟨j,e3,e4,e5,e6,e7,e8,e9,e10,e11,out,e13,M',rfl,h2,h3⟩
theorem afL {p n fu:Nat}(s:By)(hs:s.length<=10000)(an:s.length+20<=fu):∀(r pos:Nat),s.length-pos<=r->pos<=s.length->
  ∀(nx:Nat) (acc:List Tok) (e3 e4 e5 e7 e8 e9 e10 e11 out e13:o7) (M:Mem) (N:Nat),M.Ok->M.lim<=p->p<M.nx->M.get p=some (.siter s pos)->Brd s pos nx->bZ (p+1) 2 M out (U6 acc)->acc.length<=max pos nx->r+1<=N->
  jc s p acc M (K8 (λenv m k=>Eu (r9 KW fu (n+4)) fu none env m k) N (Wq (.str s) ff (.ptr p 0) e3 e4 e5 (iV (nx:Int)) e7 e8 e9 e10 e11 out e13 nS (iV 0) (iV 0)) M []) (nY (max pos nx) (s.drop (max pos nx))):=by
 intro r;induction r with
 | zero=>
  intro pos hr ab nx acc e3 e4 e5 e7 e8 e9 e10 e11 out e13 M N S U hp hg W ho J hN;obtain⟨N,rfl⟩:∃k,N=k+1:=⟨N-1,by omega⟩;obtain rfl:pos=s.length:=by omega
  have a:max s.length nx=s.length:=by have:=W.1;omega
  have v:=λit Y ls env K=>xR (m:=M) (s:=s) (p:=p) hg U it Y ls env K;rw [a,abC (aP _),Hu];refine .inl ⟨[],.bool false,.tuple [.bool false],e5,iV (nx:Nat),e7,e8,e9,e10,e11,out,e13,M,rfl,?_,Fr.refl S,by simpa using ho,by simpa [a] using J⟩;rw [A8];simp [Eu,v]
 | succ r ih=>
  intro pos hr ab nx acc e3 e4 e5 e7 e8 e9 e10 e11 out e13 M N S U hp hg W ho J hN;obtain⟨N,rfl⟩:∃k,N=k+1:=⟨N-1,by omega⟩;by_cases hlt:pos<s.length;have v:=λit Y ls env K=>Qo (m:=M) (s:=s) (p:=p) (pos:=pos) hg U hlt it Y ls env K;have u:=λh=>W.step hlt h;have f:=CV s pos hlt;have j:s.drop pos=s[pos]::s.drop (pos+1):=Z6 hlt;generalize hD:Utf8.decode ⟨s.toArray⟩ pos=D at v u f;obtain⟨c,w⟩:=D;simp only at v u f;have au:1<=w∧pos+w<=s.length∧c<2147483648:=by rcases f with⟨b,d⟩ | ⟨b,d,h3,h4,h5,h6⟩;cases d;omega;omega
  have y:(M.set p (.siter s (pos+w))).Ok:=Mem.Ok.set S hp _;have H:(M.set p (.siter s (pos+w))).get p=some (.siter s (pos+w)):=D6 S _ hp rfl;have t:Fr (p+1) p M (M.set p (.siter s (pos+w))):=⟨y,by simp,by simp,λi K hn=>w9 S _ hp hn⟩;have A:bZ (p+1) 2 (M.set p (.siter s (pos+w))) out (U6 acc):=ho.keep (by simp) λi b d=>w9 S _ hp (by omega);generalize hM1e:M.set p (.siter s (pos+w))=M1 at v y H t A;have aq:M.nx=M1.nx:=by rw [← hM1e];rfl
  have L:M1.lim<=p:=by rw [t.lim];exact U
  by_cases hnx:pos<nx;have b:=u hnx;have a:max pos nx=max (pos+w) nx:=by omega
  have g:=ih (pos+w) (by omega) (by omega) nx acc tt (.tuple [.bool true,iV (pos:Nat),.int .i32 (c:Nat)]) (iV (pos:Nat)) (.int .i32 (c:Nat)) tt e9 e10 e11 out e13 M1 N y L (by omega) H (W.mono (by omega)) A (by omega) (by omega);rw [a];refine jc.fr ?_ t;rw [A8];refine Eq.mpr (congrArg (λr=>jc s p _ _ r _) ?_) g;simp [Eu,v,hnx];have a:max pos nx=pos:=by omega
  rw [a] at J ⊢;rw [j];have E:(c:Int)=32↔s[pos]=32:=by rcases f with⟨b,d⟩ | ⟨b,d,_⟩;cases d;exact⟨λh=>adT.1 (by simp;omega),λh=>by rw [h];rfl⟩;exact⟨λh=>by omega,λh=>by rw [h] at b;exact absurd b (by decide)⟩
  have C:(c:Int)=10↔s[pos]=10:=by rcases f with⟨b,d⟩ | ⟨b,d,_⟩;cases d;exact⟨λh=>adT.1 (by simp;omega),λh=>by rw [h];rfl⟩;exact⟨λh=>by omega,λh=>by rw [h] at b;exact absurd b (by decide)⟩
  have G:(c:Int)=35↔s[pos]=35:=by rcases f with⟨b,d⟩ | ⟨b,d,_⟩;cases d;exact⟨λh=>adT.1 (by simp;omega),λh=>by rw [h];rfl⟩;exact⟨λh=>by omega,λh=>by rw [h] at b;exact absurd b (by decide)⟩
  have V:(s[pos]).toNat<128->w=1:=λh=>by rcases f with⟨b,d⟩ | ⟨b,_⟩;cases d;rfl;omega
  have al:decide ((c:Int)=32)=decide (s[pos]=32):=by rw [aaH];simpa using E
  have ak:decide ((c:Int)=10)=decide (s[pos]=10):=by rw [aaH];simpa using C
  have am:decide ((c:Int)=35)=decide (s[pos]=35):=by rw [aaH];simpa using G
  have bt:∀(P:Prop) [Decidable P],P->decide P=true:=λP _ h=>decide_eq_true h;have q1:=λx lo ls env hx U=>YM (x:=x) (lo:=lo) (ls:=ls) (env:=env) (s:=s) (l:=pos) hx U (by omega);by_cases hbl:s[pos]=32∨s[pos]=10;have hw:w=1:=V (by rcases hbl with h | h<;>rw [h]<;>decide)
  subst hw;rw [Sz hbl];have g:=ih (pos+1) (by omega) (by omega) nx acc tt (.tuple [.bool true,iV (pos:Nat),.int .i32 (c:Nat)]) (iV (pos:Nat)) (.int .i32 (c:Nat)) tt e9 e10 e11 out e13 M1 N y L (by omega) H (W.mono (by omega)) A (by omega) (by omega);rw [show max (pos+1) nx=pos+1 from by omega] at g;refine jc.fr ?_ t;rw [A8];refine Eq.mpr (congrArg (λr=>jc s p _ _ r _) ?_) g;rcases hbl with h | h;have R:=E.2 h;simp [Eu,v,hnx,R];have R:=C.2 h;have e2:¬ (c:Int)=32:=by omega
  simp [Eu,v,hnx,R,e2];have a5:¬ (c:Int)=32:=λh=>hbl (.inl (E.1 h));have a4:¬ (c:Int)=10:=λh=>hbl (.inr (C.1 h));by_cases h35:s[pos]=35;have hw:w=1:=V (by rw [h35];decide);subst hw;have hc:=G.2 h35;have af:=SE (m:=M1) (g:=25) (p:=λc=>c != 10) (n:=n+3) (fu:=fu) (s.drop pos) (by simp;omega) (λc=>afH c (n+2) fu _) (by simp;omega);have ag:=mK (λc=>c != 10) (s.drop pos);rw [aht] at ag;have ar:1<=Q7 (λc=>c != 10) (s.drop pos):=by rw [j,Q7,if_pos (by rw [h35];decide)];omega
  have T:Brd s (pos+1) (pos+Q7 (λc=>c != 10) (s.drop pos)):=by
   refine⟨by omega,?_⟩;by_cases he:pos+Q7 (λc=>c != 10) (s.drop pos)=s.length;exact .inl he;have a1:Q7 (λc=>c != 10) (s.drop pos)<(s.drop pos).length:=by rw [aht];omega
   have:=Ht (λc=>c != 10) (s.drop pos) a1;rw [List.getElem_drop] at this;exact .inr (.inr ⟨by omega,by simpa using this⟩)
  have g:=ih (pos+1) (by omega) (by omega) (pos+Q7 (λc=>c != 10) (s.drop pos)) acc tt (.tuple [.bool true,iV (pos:Nat),.int .i32 (c:Nat)]) (iV (pos:Nat)) (.int .i32 (c:Nat)) ff tt e10 e11 out e13 M1 N y L (by omega) H T A (by omega) (by omega);rw [show max (pos+1) (pos+Q7 (λc=>c != 10) (s.drop pos))=pos+Q7 (λc=>c != 10) (s.drop pos) from by omega] at g;have R:rz ((pos:Int)+(Q7 (λc=>c != 10) (s.drop pos):Int))=((pos+Q7 (λc=>c != 10) (s.drop pos):Nat):Int):=by rw [Z0 (by omega) (by omega)];omega
  have ac:nY pos (s[pos]::s.drop (pos+1))=nY (pos+Q7 (λc=>c != 10) (s.drop pos)) (s.drop (pos+Q7 (λc=>c != 10) (s.drop pos))):=by
   have:s.drop pos=35::s.drop (pos+1):=by rw [j,h35]
   rw [h35,Wo,← this,adS]
  rw [ac];refine jc.fr ?_ t;rw [A8];refine Eq.mpr (congrArg (λr=>jc s p _ _ r _) ?_) g;simp [Eu,v,hnx,hc,q1,af,R];have a6:¬ (c:Int)=35:=λh=>h35 (G.1 h);obtain⟨k,tx,ok,M2,ga,E2,hk⟩:=afK y (by omega) s[pos] (s.drop (pos+1)) (by simp;omega) n fu (by simp;omega);rw [← j] at ga;have X:=E2.ok;have Z:M2.lim<=M2.nx:=by rw [E2.lim];exact gI (by omega) E2.nx
  have a9:M2.get p=some (.siter s (pos+w)):=(E2.old p (by omega)).trans H;cases htk:kX (s[pos]::s.drop (pos+1)) with
  | none=>rw [htk] at hk;obtain rfl:ok=false:=hk;rw [Zf hbl h35 htk];refine jc.fr (.inr ⟨pos,.bool true,.tuple [.bool true,iV (pos:Nat),.int .i32 (c:Nat)],iV (pos:Nat),iV (nx:Nat),.int .i32 (c:Nat),.bool false,.bool false,.bool false,.bool true,out,.ptr M2.nx 0,ext M2 [o9 [iV k,.str tx]],rfl,?_,(E2.fr (by omega)).trans ((H7 X _).fr (gI (by omega) E2.nx))⟩) t;rw [A8];have S':=qo X Z;obtain⟨x1,x2,x3,x4,x5,x6⟩:=S';simp [Eu,v,hnx,a5,a4,a6,q1,ga,D7,F6,x1,x2,x3,x4,x5,x6,H6]
  | some q=>
   obtain⟨I,l⟩:=q;rw [htk] at hk;obtain⟨rfl,rfl,rfl⟩:=hk;obtain⟨ai,a0,ao,ap,Q⟩:=wT htk;have hw:w=1:=V (by have:=Q 0 (by simp;omega) (by omega);simpa using this);subst hw;have aj:l<=s.length-pos:=by simpa [← j] using a0
   have ah:((s[pos]::s.drop (pos+1)).take l).length=l:=by rw [ahv];omega
   have ad:(ext M2 [o9 [iV (I:Int),.str ((s[pos]::s.drop (pos+1)).take l)]]).Ok:=qW X _;have E3:Ext M2 (ext M2 [o9 [iV (I:Int),.str ((s[pos]::s.drop (pos+1)).take l)],o9 [iV (I:Int),.str ((s[pos]::s.drop (pos+1)).take l)]]):=H7 X _;have hx:fT (ext M2 [o9 [iV (I:Int),.str ((s[pos]::s.drop (pos+1)).take l)],o9 [iV (I:Int),.str ((s[pos]::s.drop (pos+1)).take l)]]) 2 (.slice (M2.nx+1) 0 1 1) [uP (I,(s[pos]::s.drop (pos+1)).take l)]:=by have:=zx ad (uP (I,(s[pos]::s.drop (pos+1)).take l)) (by simp [uP]);exact this
   have ae:=(A.ext E2).ext E3;obtain⟨v5,M5,gb,a2,F5,a7⟩:=Sl (lo:=p+1) (rs:=2) (bytes:=24) (r:=uP (I,(s[pos]::s.drop (pos+1)).take l)) E3.ok (by simp;rw [E2.lim];omega) (by simp;have:=E2.nx;omega) (by omega) ae hx (by simp [uP]) (by simp [uP,H6]) (by simp [U6];omega) ⟨by omega,by omega⟩;have po:=Jp a2.slice;have a3:M5.get M2.nx=some (o9 [iV (I:Int),.str ((s[pos]::s.drop (pos+1)).take l)]):=by
    rw [a7 M2.nx (by simp) λo n e hv=>by
     have:=(A.lt hv).2;have:=E2.nx;omega,F7 X]
    rfl
   have FF:Fr (p+1) p M1 M5:=(E2.fr (by omega)).trans ((E3.fr (gI (by omega) E2.nx)).trans ((F5.mono (q:=p+1) (aP _)).down (aP _) |> λF=>⟨F.ok,F.nx,F.lim,λi K hn=>F.old i K (by omega)⟩))
   have aa:M5.get p=some (.siter s (pos+1)):=by rw [F5.old p (by omega) (by omega),E3.old p (J3 (by omega) E2.nx)];exact a9
   have T:Brd s (pos+1) (pos+l):=⟨by omega,.inr (.inl λi K b d=>by
    have:=Q (i-pos) (by simp;omega) (by omega);have e:(s[pos]::s.drop (pos+1))[i-pos]'(by simp;omega)=s[i]:=by have h3:(s.drop pos)[i-pos]'(by simp;omega)=s[i]:=(by rw [List.getElem_drop];congr 1;omega);rw [← h3];congr 1;exact j.symm
    rwa [e] at this)⟩
   have g:=ih (pos+1) (by omega) (by omega) (pos+l) (acc ++ [(I,(s[pos]::s.drop (pos+1)).take l)]) tt (.tuple [.bool true,iV (pos:Nat),.int .i32 (c:Nat)]) (iV (pos:Nat)) (.int .i32 (c:Nat)) ff ff tt ff v5 (.ptr M2.nx 0) M5 N F5.ok (by rw [FF.lim];exact L) (J3 (by omega) FF.nx) aa T (by rw [Qn];exact a2) (by simp;omega) (by omega);rw [show max (pos+1) (pos+l)=pos+l from by omega] at g;have R:rz ((pos:Int)+(l:Int))=((pos+l:Nat):Int):=by rw [Z0 (by omega) (by omega)];omega
   refine jc.tok hbl h35 htk ?_;rw [show (s[pos]::s.drop (pos+1)).drop l=s.drop (pos+l) from by rw [← j,adS]];refine jc.fr ?_ (t.trans FF);rw [A8];refine Eq.mpr (congrArg (λr=>jc s p _ _ r _) ?_) g;obtain⟨x1,x2,x3,x4,x5,x6⟩:=qo X Z;have a8:∀z ps ls env O,List.length z=2->P7 2 1 z ps ls env O=ob (lay ps ls env z) λB=>if B.length=2 then some (.slice O 0 1 1,some (o9 B)) else none:=λz ps ls env O h=>iZ 2 z ps ls env O h
   generalize (s[pos]::s.drop (pos+1)).take l=tx at *;simp [Eu,v,hnx,a5,a4,a6,q1,ga,D7,F6,x1,x2,x3,x4,x5,x6,H6,a8,gb,po,a3,ah,R]
  obtain rfl:pos=s.length:=by omega
  have a:max s.length nx=s.length:=by have:=W.1;omega
  have v:=λit Y ls env K=>xR (m:=M) (s:=s) (p:=p) hg U it Y ls env K;rw [a,abC (aP _),Hu];refine .inl ⟨[],.bool false,.tuple [.bool false],e5,iV (nx:Nat),e7,e8,e9,e10,e11,out,e13,M,rfl,?_,Fr.refl S,by simpa using ho,by simpa [a] using J⟩;rw [A8];simp [Eu,v]
theorem ajO {m:Mem}(hm:m.Ok)(hl:m.lim<=m.nx)(s:By)(hs:s.length<=8000)(n fu:Nat)(hfu:s.length+20<=fu):
  ∃(v:o7) (e a:Int) (m':Mem),r9 KW fu (n+5) (.func 8) [.str s] m=some [⟨.tuple [v,iV e,iV a],m'⟩]∧Ext m m'∧
   match nY 0 s with
   | .inr ts=>bZ m.nx 2 m' v (U6 ts)∧ts.length<=s.length∧e=0∧a=-1
   | .inl j=>v=nS∧e=7∧a=(j:Int):=by
 have hM:(m.new (.siter s 0)).Ok:=Mem.Ok.new hm _;have g:=afL (p:=m.nx) (n:=n) (fu:=fu) s (by omega) hfu s.length 0 (by omega) (by omega) 0 [] .undef .undef .undef .undef .undef .undef .undef .undef nS .undef (m.new (.siter s 0)) fu hM (by simpa using hl) (by simp) (AP hm _ rfl)
  ⟨by omega,.inr (.inl λi hi h1 h2=>by omega)⟩ (bZ.nil _ _ _) (by simp) (by omega)
 have rs:∀cf ls env mm x,x ls env=.str s->xA x cf ls env mm=some [⟨.ptr mm.nx 0,mm.new (.siter s 0)⟩]:=λcf ls env mm x hx=>by show mO (x ls env) _=_;rw [hx];rfl
 have e1:decide ((8000:Int)<(s.length:Int))=false:=decide_eq_false (by omega);have hE:∀M',Fr (m.nx+1) m.nx (m.new (.siter s 0)) M'->Ext m M':=λM' F=>by refine⟨F.ok,gI (by simp) F.nx,F.lim,λi hi=>?_⟩;rw [F.old i (by omega) (by omega),GI hm _ (by omega)]
 rw [show max 0 0=0 from rfl,K9] at g;rcases g with⟨ts,e3,e4,e5,e6,e7,e8,e9,e10,e11,out,e13,M',h1,h2,h3,h4,h5⟩ | ⟨j,e3,e4,e5,e6,e7,e8,e9,e10,e11,out,e13,M',h1,h2,h3⟩;have g':K8 (λenv m k=>Eu (r9 KW fu (n+4)) fu none env m k) fu (Wq (.str s) ff (.ptr m.nx 0) .undef .undef .undef (iV 0) .undef .undef .undef .undef .undef nS .undef nS (iV 0) (iV 0)) (m.new (.siter s 0)) []=_:=h2;rw [abX] at h4 h5;refine⟨out,0,-1,M',?_,hE M' h3,?_⟩;rw [enter (sf:=f8) rfl rfl];simp [f8,rs,e1,g'];rw [h1];exact⟨h4.down (by omega),h5,rfl,rfl⟩;have g':K8 (λenv m k=>Eu (r9 KW fu (n+4)) fu none env m k) fu (Wq (.str s) ff (.ptr m.nx 0) .undef .undef .undef (iV 0) .undef .undef .undef .undef .undef nS .undef nS (iV 0) (iV 0)) (m.new (.siter s 0)) []=_:=h2;refine⟨nS,7,j,M',?_,hE M' h3,?_⟩;rw [enter (sf:=f8) rfl rfl];simp [f8,rs,e1,g'];rw [h1];exact⟨rfl,rfl,rfl⟩
theorem afM {m:Mem}(s:By)(hs:8000<s.length)(n fu:Nat):r9 KW fu (n+1) (.func 8) [.str s] m=some [⟨.tuple [nS,iV 2,iV (-1)],m⟩]:=by have a:decide ((8000:Int)<(s.length:Int))=true:=decide_eq_true (by omega);rw [enter (sf:=f8) rfl rfl];simp [f8,a]
def xS (s:By)(p:Nat)(acc:List Tok)(M:Mem)(r:Option (List Out))(l:Sum Nat (List Tok)):Prop:=
 (∃(ts:List Tok) (e3 e4 e5 e6 e7 e8 e9 out e11:o7) (M':Mem),l=.inr ts∧r=some [⟨.exit 0,(Jo (.str s) ff (.ptr p 0) e3 e4 e5 e6 e7 e8 e9 out e11),M',[],none⟩]∧Fr (p+1) p M M'∧M'.get p=some (o9 [nS,iV 0,iV 0])∧bZ (p+1) 2 M' out (U6 (acc++ts))∧(acc++ts).length<=s.length)∨
 (∃(j:Nat) (e3 e4 e5 e6 e7 e8 e9 out e11:o7) (M':Mem),l=.inl j∧r=some [⟨.ret,(Jo (.str s) ff (.ptr p 0) e3 e4 e5 e6 e7 e8 e9 out e11),M',[],none⟩]∧Fr (p+1) p M M'∧M'.get p=some (o9 [nS,iV 7,iV (j:Int)]))
theorem xS.fr {s:By}{p:Nat}{a:List Tok}{M b:Mem}{r:Option (List Out)}{l:Sum Nat (List Tok)}(h:xS s p a b r l)(c:Fr (p+1) p M b):xS s p a M r l:=by rcases h with⟨ts,e3,e4,e5,e6,e7,e8,e9,out,e11,M',h1,h2,h3,h4⟩ | ⟨j,e3,e4,e5,e6,e7,e8,e9,out,e11,M',h1,h2,h3,h4⟩;exact .inl ⟨ts,e3,e4,e5,e6,e7,e8,e9,out,e11,M',h1,h2,c.trans h3,h4⟩;exact .inr ⟨j,e3,e4,e5,e6,e7,e8,e9,out,e11,M',h1,h2,c.trans h3,h4⟩
theorem xS.tok {s:By}{p k l i:Nat}{b:UInt8}{t:By}{a:List Tok}{M:Mem}{r:Option (List Out)}(hb:¬(b=32∨b=10))(c:b≠35)(d:kX (b::t)=some (k,l))
  (h:xS s p (a ++ [(k,(b::t).take l)]) M r (nY (i+l) ((b::t).drop l))):xS s p a M r (nY i (b::t)):=by
 rw [Qk hb c d];rcases h with⟨ts,e3,e4,e5,e6,e7,e8,e9,out,e11,M',c,h2,h3,h4,h5⟩ | ⟨j,e3,e4,e5,e6,e7,e8,e9,out,e11,M',c,h2,h3,h4⟩;rw [c];exact .inl ⟨_,e3,e4,e5,e6,e7,e8,e9,out,e11,M',rfl,h2,h3,h4,by simpa using h5⟩;rw [c];exact .inr ⟨j,e3,e4,e5,e6,e7,e8,e9,out,e11,M',rfl,h2,h3,h4⟩
@[simp] theorem ajP (k:IntKind)(n:Int):H6 (.int k n)=true:=_root_.id rfl
@[simp] theorem ajQ (s:By):H6 (.str s)=true:=_root_.id rfl
@[simp] theorem ahO (b:Bool):H6 (.bool b)=true:=_root_.id rfl
def Nc (m m':Mem)(s:By)(v:o7)(e a:Int):Prop:=match nY 0 s with
 | .inr ts=>bZ m.nx 2 m' v (U6 ts)∧ts.length<=s.length∧e=0∧a=-1
 | .inl j=>v=nS∧e=7∧a=(j:Int)
@[simp] theorem aq0:IE .s=eqStr:=_root_.id rfl
theorem Nc.same {m m1 l g:Mem}{s:By}{i k:o7}{e c f d:Int}(a:Nc m m1 s i e c)(b:Nc l g s k f d):e=f∧c=d∧∃ts:List Tok,ts.length<=s.length∧fT m1 2 i (U6 ts)∧fT g 2 k (U6 ts):=by
 unfold Nc at a b;cases h:nY 0 s with
 | inr ts=>rw [h] at a b;obtain⟨n,o,rfl,rfl⟩:=a;obtain⟨p,q,rfl,rfl⟩:=b;exact⟨rfl,rfl,ts,o,n.slice,p.slice⟩
 | inl j=>rw [h] at a b;obtain⟨rfl,rfl,rfl⟩:=a;obtain⟨rfl,rfl,rfl⟩:=b;exact⟨rfl,rfl,[],by simp,.inl ⟨rfl,rfl⟩,.inl ⟨rfl,rfl⟩⟩
mutual
def ng:Ex->Nat
 | .mk _ _ _ a=>1+U1 a
def U1:List Ex->Nat
 | []=>0
 | e::l=>ng e+U1 l
end
mutual
def wU:Ex->Nat
 | .mk _ _ _ a=>1+bF a
def bF:List Ex->Nat
 | []=>0
 | e::l=>max (wU e) (bF l)
end
mutual
def stP:V4->Nat
 | .mk _ _ e t f=>1+U1 e+V6 t+V6 f
def V6:List V4->Nat
 | []=>0
 | s::l=>stP s+V6 l
end
mutual
def zO:V4->Nat
 | .mk _ _ e t f=>1+max (bF e) (max (cu t) (cu f))
def cu:List V4->Nat
 | []=>0
 | s::l=>max (zO s) (cu l)
end
def nK (l:List V4):Int×Int:=if V6 l<=500∧cu l<=20 then (V6 l,cu l) else (-1,-1)
def comb (a b:Nat×Nat):Nat×Nat:=(a.1+b.1,max a.2 b.2)
def iK (s:Nat×Nat)(l:List (Nat×Nat)):Nat×Nat:=l.foldl comb s
mutual
def bE:Nat->Ex->Nat×Nat
 | d,.mk _ _ _ a=>iK (1,1) (Bo d a)
def Bo:Nat->List Ex->List (Nat×Nat)
 | _,[]=>[]
 | 0,_ :: _=>[(0,21)]
 | d+1,e::l=>((bE d e).1,(bE d e).2+1)::Bo (d+1) l
end
mutual
def bSt:Nat->V4->Nat×Nat
 | d,.mk _ _ e t f=>comb (comb (iK (1,1) (Bo (d-1) e)) ((bS (d-1) t).1,(bS (d-1) t).2+1)) ((bS (d-1) f).1,(bS (d-1) f).2+1)
def bS:Nat->List V4->Nat×Nat
 | _,[]=>(0,0)
 | 0,_ :: _=>(0,21)
 | d+1,s::l=>comb (bSt (d+1) s) (bS (d+1) l)
end
theorem KG:∀(l:List (Nat×Nat)) (s:Nat×Nat),(iK s l).1=s.1+(l.map (·.1)).sum∧s.2<=(iK s l).2∧(∀x∈l,x.2<=(iK s l).2)∧∀B,s.2<=B->(∀x∈l,x.2<=B)->(iK s l).2<=B
 | [],s=>⟨by simp [iK],aP _,by simp,λB h _=>h⟩
 | x::l,s=>by
  obtain⟨h1,h2,h3,h4⟩:=KG l (comb s x);have e:iK s (x::l)=iK (comb s x) l:=rfl;rw [e];refine⟨?_,?_,?_,?_⟩;rw [h1];simp [comb];omega;have:s.2<=(comb s x).2:=by simp [comb];omega
  omega;intro y hy;rcases Y4.1 hy with rfl | hy;have:y.2<=(comb s y).2:=by simp [comb];omega
  omega;exact h3 y hy;intro B hs hB;refine h4 B ?_ λy hy=>hB y (by simp [hy]);have:=hB x (by simp);simp [comb];omega
structure WOk (d:Nat)(a:List Ex)(w:List (Nat×Nat)):Prop where
 ex:bF a<=d->(w.map (·.1)).sum=U1 a∧(∀x∈w,x.2<=bF a+1)∧(a≠[]->∃x∈w,x.2=bF a+1)
 big:d<bF a->∃x∈w,21<=x.2
 le:(w.map (·.1)).sum<=U1 a
 lv:∀x∈w,x.2<=21+d
 len:w.length<=a.length
theorem Bp {d:Nat}{a:List Ex}{w:List (Nat×Nat)}(h:WOk d a w):(bF a<=d->iK (1,1) w=(1+U1 a,1+bF a))∧(d<bF a->21<=(iK (1,1) w).2)∧(iK (1,1) w).1<=1+U1 a∧(iK (1,1) w).2<=21+d:=by
 obtain⟨f,p,g,i⟩:=KG w (1,1);refine⟨λb=>?_,λb=>?_,?_,?_⟩;obtain⟨j,k,l⟩:=h.ex b;have m:(iK (1,1) w).2=1+bF a:=by by_cases ha:a=[];subst ha;have:w=[]:=Z8.1 (Nat.le_zero.1 (by simpa using h.len));subst this;rfl;obtain⟨x,c,e⟩:=l ha;have n:=g x c;have o:=i (bF a+1) (by simp) k;omega
 rw [ad4];exact⟨by rw [f,j],m⟩;obtain⟨x,c,e⟩:=h.big b;have:=g x c;omega;rw [f];have:=h.le;simp;omega
 exact i _ (by simp;omega) h.lv
mutual
theorem Zi:∀(e:Ex) (d:Nat),(wU e<=d+1->bE d e=(ng e,wU e))∧(d+1<wU e->21<=(bE d e).2)∧(bE d e).1<=ng e∧(bE d e).2<=21+d
 | .mk k n s a,d=>by have h:=Bp (wV a d);rw [bE,wU,ng];exact⟨λhd=>h.1 (by omega),λhd=>h.2.1 (by omega),h.2.2.1,h.2.2.2⟩
theorem wV:∀(a:List Ex) (d:Nat),WOk d a (Bo d a)
 | [],d=>⟨λ_=>⟨rfl,by simp [Bo],λh=>absurd rfl h⟩,λh=>by simp [bF] at h,by simp [Bo,U1],by simp [Bo],by simp [Bo]⟩
 | e::l,0=>by
  have he:1<=wU e:=by cases e;simp [wU]
  refine⟨λh=>?_,λ_=>⟨(0,21),by simp [Bo],by simp⟩,by simp [Bo],by simp [Bo],by simp [Bo]⟩;rw [bF] at h;omega
 | e::l,d+1=>by
  obtain⟨h1,h2,h3,h4⟩:=Zi e d;have H:=wV l (d+1);refine⟨λh=>?_,λh=>?_,?_,?_,?_⟩;rw [bF] at h;obtain⟨a1,a2,a3⟩:=H.ex (by omega);have e1:=h1 (by omega);rw [Bo,bF,U1,e1];refine⟨by simp [a1],λx hx=>?_,λ_=>?_⟩;rcases Y4.1 hx with rfl | hx;simp;omega;have:=a2 x hx;omega;by_cases hc:bF l<=wU e;exact⟨(ng e,wU e+1),by simp,by simp;omega⟩;have hl:l≠[]:=by rintro rfl;simp [bF] at hc
  obtain⟨x,hx,hx2⟩:=a3 hl;exact⟨x,by simp [hx],by omega⟩;rw [bF] at h;rw [Bo];by_cases hc:d+1<wU e;have:=h2 hc;exact⟨((bE d e).1,(bE d e).2+1),by simp,by simp;omega⟩;obtain⟨x,hx,hx2⟩:=H.big (by omega);exact⟨x,by simp [hx],hx2⟩;rw [Bo,U1];have:=H.le;simp;omega
  rw [Bo];intro x hx;rcases Y4.1 hx with rfl | hx;simp;omega;exact H.lv x hx;rw [Bo];have:=H.len;simpa using this
end
mutual
theorem afN:∀(s:V4) (d:Nat),(zO s<=d+1->bSt (d+1) s=(stP s,zO s))∧(d+1<zO s->21<=(bSt (d+1) s).2)∧(bSt (d+1) s).1<=stP s∧(bSt (d+1) s).2<=22+d
 | .mk k n e t f,d=>by obtain⟨e1,e2,e3,e4⟩:=Bp (wV e d);obtain⟨t1,t2,t3,t4⟩:=KH t d;obtain⟨f1,f2,f3,f4⟩:=KH f d;rw [bSt,zO,stP];simp only [ajS];refine⟨λh=>?_,λh=>?_,?_,?_⟩;rw [e1 (by omega),t1 (by omega),f1 (by omega)];simp only [comb];rw [ad4];exact⟨rfl,by simp only;omega⟩;simp only [comb];by_cases hc:d<bF e;have:=e2 hc;omega;by_cases hc2:d<cu t;have:=t2 hc2;omega;have:=f2 (by omega);omega;simp only [comb];omega;simp only [comb];omega
theorem KH:∀(l:List V4) (d:Nat),(cu l<=d->bS d l=(V6 l,cu l))∧(d<cu l->21<=(bS d l).2)∧(bS d l).1<=V6 l∧(bS d l).2<=21+d
 | [],d=>⟨λ_=>by simp [bS,V6,cu],λh=>by simp [cu] at h,by simp [bS],by simp [bS]⟩
 | s::l,0=>by
  have hs:1<=zO s:=by cases s;simp [zO]
  refine⟨λh=>?_,λ_=>by simp [bS],by simp [bS],by simp [bS]⟩;rw [cu] at h;omega
 | s::l,d+1=>by obtain⟨s1,s2,s3,s4⟩:=afN s d;obtain⟨l1,l2,l3,l4⟩:=KH l (d+1);rw [bS,cu,V6];simp only [comb];refine⟨λh=>?_,λh=>?_,?_,?_⟩;rw [s1 (by omega),l1 (by omega)];by_cases hc:d+1<zO s;have:=s2 hc;omega;have:=l2 (by omega);omega;omega;omega
end
theorem Zj (l:List V4):(if 500<(bS 22 l).1∨20<(bS 22 l).2 then ((-1,-1):Int×Int) else (((bS 22 l).1:Int),((bS 22 l).2:Int)))=nK l:=by obtain⟨a,b,c,d⟩:=KH l 22;unfold nK;by_cases h:cu l<=22;rw [a h];by_cases h5:V6 l<=500∧cu l<=20;rw [if_neg (by simp only;omega),if_pos h5];rw [if_pos (by simp only;omega),if_neg h5];rw [if_pos (.inr (by have:=b (by omega);omega)),if_neg (by omega)]
mutual
def rE:Nat->Ex->Nat×Nat
 | d,.mk _ _ _ a=>Ec d a (1,1)
def Ec:Nat->List Ex->Nat×Nat->Nat×Nat
 | _,[],o=>o
 | d,e::l,o=>if 500<o.1 then o else if 20<d then (501,21) else Ec d l (o.1+(rE (d+1) e).1,max o.2 ((rE (d+1) e).2+1))
end
def rEs:Nat->List Ex->Nat×Nat->Nat×Nat
 | _,[],o=>o
 | d,e::l,o=>if 500<o.1 then o else rEs d l (o.1+(rE (d+1) e).1,max o.2 ((rE (d+1) e).2+1))
mutual
def rSt:Nat->V4->Nat×Nat
 | d,.mk _ _ e t f=>if 20<d then (501,21) else
  ((rEs d e (1,1)).1+(Um (d+1) t (0,0)).1+(Um (d+1) f (0,0)).1,max (rEs d e (1,1)).2 (max ((Um (d+1) t (0,0)).2+1) ((Um (d+1) f (0,0)).2+1)))
def Um:Nat->List V4->Nat×Nat->Nat×Nat
 | _,[],o=>o
 | d,s::l,o=>if 500<o.1 then o else Um d l (o.1+(rSt d s).1,max o.2 (rSt d s).2)
end
mutual
theorem aea:∀(e:Ex) (d:Nat),d<=21->(wU e+d<=22∧ng e<=500->rE d e=(ng e,wU e))∧(¬ (wU e+d<=22∧ng e<=500)->501<=(rE d e).1)∧(rE d e).1<=501+500*(21-d)∧(rE d e).2<=21+(21-d)
 | .mk k n s a,d,hd=>by obtain⟨h1,h2,h3,h4⟩:=Qp a d 1 1 hd (by omega) (by omega);rw [rE,wU,ng];refine⟨λh=>?_,λh=>h2 (by omega),h3 (by omega),h4⟩;rw [h1 (by omega),ad4];exact⟨rfl,by simp only;omega⟩
theorem Qp:∀(a:List Ex) (d p l:Nat),d<=21->1<=l->l<=21+(21-d)->(bF a+d<=21∧p+U1 a<=500->Ec d a (p,l)=(p+U1 a,max l (bF a+1)))∧(¬ (bF a+d<=21∧p+U1 a<=500)->501<=(Ec d a (p,l)).1)∧
  (p<=501+500*(21-d)->(Ec d a (p,l)).1<=501+500*(21-d))∧(Ec d a (p,l)).2<=21+(21-d)
 | [],d,p,l,hd,hl,hl2=>by rw [Ec,bF,U1];refine⟨λh=>?_,λh=>by simp only;omega,λh=>h,hl2⟩;rw [ad4];exact⟨rfl,by simp only;omega⟩
 | e::a,d,p,l,hd,hl,hl2=>by
  have he:1<=wU e∧1<=ng e:=by cases e;simp [wU,ng]
  rw [Ec];by_cases hp:500<p;rw [if_pos hp];exact⟨λh=>by omega,λ_=>by simp only;omega,λh=>h,hl2⟩;rw [if_neg hp];by_cases h20:20<d;rw [if_pos h20,bF];exact⟨λh=>by omega,λ_=>by simp,λ_=>by simp only;omega,by simp only;omega⟩;rw [if_neg h20];obtain⟨e1,e2,e3,e4⟩:=aea e (d+1) (by omega);have hl3:max l ((rE (d+1) e).2+1)<=21+(21-d):=by omega
  obtain⟨a1,a2,a3,a4⟩:=Qp a d (p+(rE (d+1) e).1) (max l ((rE (d+1) e).2+1)) hd (by omega) hl3;rw [bF,U1];refine⟨λh=>?_,λh=>?_,λh=>a3 (by omega),a4⟩;have x:=e1 (by omega);rw [x] at a1 ⊢;rw [a1 (by simp only;omega),ad4];exact⟨by simp only;omega,by simp only;omega⟩;by_cases hc:wU e+(d+1)<=22∧ng e<=500;have x:=e1 hc;rw [x] at a2 ⊢;exact a2 (by simp only;omega);have x:=e2 hc;refine a2 ?_;omega
end
theorem Zk:∀(a:List Ex) (d p l:Nat),d<=20->1<=l->l<=21+(21-d)->(bF a+d<=21∧p+U1 a<=500->rEs d a (p,l)=(p+U1 a,max l (bF a+1)))∧(¬ (bF a+d<=21∧p+U1 a<=500)->501<=(rEs d a (p,l)).1)∧
  (p<=501+500*(21-d)->(rEs d a (p,l)).1<=501+500*(21-d))∧(rEs d a (p,l)).2<=21+(21-d)∧1<=(rEs d a (p,l)).2
 | [],d,p,l,hd,hl,hl2=>by rw [rEs,bF,U1];refine⟨λh=>?_,λh=>by simp only;omega,λh=>h,hl2,hl⟩;rw [ad4];exact⟨rfl,by simp only;omega⟩
 | e::a,d,p,l,hd,hl,hl2=>by rw [rEs];by_cases hp:500<p;rw [if_pos hp];exact⟨λh=>by omega,λ_=>by simp only;omega,λh=>h,hl2,hl⟩;rw [if_neg hp];obtain⟨e1,e2,e3,e4⟩:=aea e (d+1) (by omega);obtain⟨a1,a2,a3,a4,a5⟩:=Zk a d (p+(rE (d+1) e).1) (max l ((rE (d+1) e).2+1)) hd (by omega) (by omega);rw [bF,U1];refine⟨λh=>?_,λh=>?_,λh=>a3 (by omega),a4,a5⟩;have x:=e1 (by omega);rw [x] at a1 ⊢;rw [a1 (by simp only;omega),ad4];exact⟨by simp only;omega,by simp only;omega⟩;by_cases hc:wU e+(d+1)<=22∧ng e<=500;have x:=e1 hc;rw [x] at a2 ⊢;exact a2 (by simp only;omega);have x:=e2 hc;exact a2 (by omega)
mutual
theorem afO:∀(s:V4) (d:Nat),1<=d->d<=21->(zO s+d<=21∧stP s<=500->rSt d s=(stP s,zO s))∧(¬ (zO s+d<=21∧stP s<=500)->501<=(rSt d s).1∨22<=(rSt d s).2+d)∧(rSt d s).1<=20000*3^(21-d)∧(rSt d s).2+d<=64
 | .mk k n e t f,d,hd1,hd=>by
  rw [rSt];by_cases h20:20<d;rw [if_pos h20,zO];refine⟨λh=>by omega,λ_=>by simp,?_,by simp only;omega⟩;have:=Nat.one_le_pow (21-d) 3 (by omega);simp only;omega;rw [if_neg h20];obtain⟨e1,e2,e3,e4,e5⟩:=Zk e d 1 1 (by omega) (by omega) (by omega);obtain⟨t1,t2,t3,t4⟩:=SF t (d+1) 0 0 (by omega) (by omega) (by omega);obtain⟨f1,f2,f3,f4⟩:=SF f (d+1) 0 0 (by omega) (by omega) (by omega);rw [zO,stP];refine⟨λh=>?_,λh=>?_,?_,?_⟩;rw [e1 (by omega),t1 (by omega),f1 (by omega),ad4];exact⟨by simp only;omega,by simp only;omega⟩;by_cases hc:bF e+d<=21∧1+U1 e<=500;by_cases hc2:cu t+(d+1)<=21∧0+V6 t<=500;by_cases hc3:cu f+(d+1)<=21∧0+V6 f<=500;rw [e1 hc,t1 hc2,f1 hc3];simp only;omega;have:=f2 hc3;simp only;omega;have:=t2 hc2;simp only;omega;have:=e2 hc;simp only;omega;have a1:=e3 (by omega);have a2:=t3 (by omega);have a3:=f3 (by omega);have hp:3^(21-d)=3*3^(21-(d+1)):=by rw [show 21-d=(21-(d+1))+1 from by omega,alY];omega
  have:=Nat.one_le_pow (21-(d+1)) 3 (by omega);simp only;omega;simp only;omega
theorem SF:∀(l:List V4) (d p v:Nat),1<=d->d<=21->v+d<=64->(cu l+d<=21∧p+V6 l<=500->Um d l (p,v)=(p+V6 l,max v (cu l)))∧(¬ (cu l+d<=21∧p+V6 l<=500)->501<=(Um d l (p,v)).1∨22<=(Um d l (p,v)).2+d)∧
  (p<=500+20000*3^(21-d)->(Um d l (p,v)).1<=500+20000*3^(21-d))∧(Um d l (p,v)).2+d<=64∧p<=(Um d l (p,v)).1∧v<=(Um d l (p,v)).2
 | [],d,p,v,hd1,hd,hv=>by rw [Um,cu,V6];refine⟨λh=>?_,λh=>by simp only;omega,λh=>h,hv,aP _,aP _⟩;rw [ad4];exact⟨rfl,by simp only;omega⟩
 | s::l,d,p,v,hd1,hd,hv=>by
  have hs:1<=zO s∧1<=stP s:=by cases s;simp [zO,stP];omega
  rw [Um];by_cases hp:500<p;rw [if_pos hp];exact⟨λh=>by omega,λ_=>by simp only;omega,λh=>h,hv,aP _,aP _⟩;rw [if_neg hp];dsimp only at hp ⊢;obtain⟨s1,s2,s3,s4⟩:=afO s d hd1 hd;obtain⟨l1,l2,l3,l4,l5,l6⟩:=SF l d (p+(rSt d s).1) (max v (rSt d s).2) hd1 hd (by omega);rw [cu,V6];refine⟨λh=>?_,λh=>?_,λh=>l3 (by omega),l4,by omega,by omega⟩;have x:=s1 (by omega);rw [x] at l1 ⊢;rw [l1 (by simp only;omega),ad4];exact⟨by simp only;omega,by simp only;omega⟩;by_cases hc:zO s+d<=21∧stP s<=500;have x:=s1 hc;rw [x] at l2 ⊢;exact l2 (by simp only;omega);have x:=s2 hc;rcases x with x | x;exact .inl (by omega);exact .inr (by omega)
end
def K4 (x:Nat×Nat):List o7:=[iV (x.1:Int),iV (x.2:Int)]
def jB (l:List (Nat×Nat)):List (List o7):=l.map K4
theorem zI (l:List (Nat×Nat)):(jB l).length=l.length:=by simp [jB]
def Small (l:List (Nat×Nat)):Prop:=l.length<=100000∧∀x∈l,x.1<=10000000000000∧x.2<=1000000
theorem Zl {β:Type}{m:Mem}(d:m.Ok){p:Nat}(hp:p<m.nx)(c:m.lim<=p)(l:List P9)(off:Nat)(a:List o7)(k:Mem->Option β):storeAt (ext m l) p off a k=bi (N7 a) (ob (wF (m.get p) off a) λb=>k ((ext m l).set p b)) none:=by rw [pJ (by rw [TR];exact c),bg d l hp]
structure At (p:Nat)(m M:Mem):Prop where
 lt:p<m.nx
 limp:m.lim<=p
 fr:Fr m.nx p m M
section
variable {p:Nat}{m M M':Mem}
theorem At.ok (h:At p m M):M.Ok:=h.fr.ok
theorem At.Xf (h:At p m M):p<M.nx:=J3 h.lt h.fr.nx
theorem At.lim (h:At p m M):M.lim<=p:=by rw [h.fr.lim];exact h.limp
theorem At.lF (h:At p m M):M.lim<=M.nx:=gI h.lim (ahs h.Xf)
theorem At.start (b:m.Ok)(hp:p<m.nx)(a:m.lim<=p):At p m m:=⟨hp,a,Fr.refl b⟩
theorem At.nx (h:At p m M)(e:Ext M M'):At p m M':=⟨h.lt,h.limp,h.fr.trans (e.fr h.fr.nx)⟩
theorem At.set (h:At p m M)(b:P9):At p m (M.set p b):=
 ⟨h.lt,h.limp,h.fr.trans ⟨Mem.Ok.set h.ok h.Xf _,by simp,by simp,λi c a=>w9 h.ok _ h.Xf a⟩⟩
theorem At.ext {a:Mem}(h:At p m M)(e:Ext a m)(hp:a.nx<=p):Ext a M:=⟨h.ok,gI e.nx h.fr.nx,h.fr.lim.trans e.lim,λi b=>(h.fr.old i (J3 b e.nx) (by omega)).trans (e.old i b)⟩
end
theorem afP (a b:Nat):((max a b:Nat):Int)=max (a:Int) b:=by omega
theorem abY {x y:OF}{ls:List o7}{env:T o7}{a b:Int}(c:x ls env=.int .i64 a)(d:y ls env=.int .i64 b):pMm true x [y] ls env=some (iV (max a b)):=by show ob (mm2 true (x ls env) (y ls env)) some=_;rw [c,d];show some (o7.int .i64 (bi (uE a b) b a))=_;rw [kK];by_cases h:a<b;rw [decide_eq_true h,Q9,Int.max_def,if_pos (by omega)];rw [decide_eq_false h,U5,Int.max_def];split<;>first | rfl | (congr 2;omega)
theorem abZ {m:Mem}{p:Nat}{v:o7}{a0 b0:Int}{cf:F8}{fu:Nat}(l:List (Nat×Nat))(hs:Small l)(V:∀M,At p m M->fT M 2 v (jB l))(U:lG v (some (o7.int .i64 0)) (λ_ _ n _=>some (iV n)) (λ_ _ n _=>some (iV n))=some (.int .i64 l.length)):
  ∀(j i:Nat),i+j=l.length->∀(s:Nat×Nat) (c x:o7) (M:Mem) (N:Nat),At p m M->M.get p=some (o9 (K4 s))->s.1<=20000000000000*(i+1)->s.2<=1000000->j+1<=N->
  ∃c' x' M',K8 (λenv m k=>Qg cf fu none env m k) N (nV9 (.agg [iV a0,iV b0]) v (iV (i:Int)) (iV (l.length:Int)) c v (.ptr p 0) x (.ptr (p+1) 0)) M []=some [⟨.exit 0,(nV9 (.agg [iV a0,iV b0]) v (iV (l.length:Int)) (iV (l.length:Int)) c' v (.ptr p 0) x' (.ptr (p+1) 0)),M',[],none⟩]∧At p m M'∧M'.get p=some (o9 (K4 (iK s (l.drop i)))):=by
 have E:=U;have T:=hs.1;intro j;induction j with
 | zero=>
  intro i R s c x M N d w r t P;obtain⟨N,rfl⟩:∃k,N=k+1:=⟨N-1,by omega⟩;obtain rfl:i=l.length:=by omega
  refine⟨.bool false,x,M,?_,d,?_⟩;rw [A8];simp [Qg];rw [afu];exact w
 | succ j ih=>
  intro i R s c x M N d w r t P;obtain⟨N,rfl⟩:∃k,N=k+1:=⟨N-1,by omega⟩;have e:i<l.length:=by omega
  have h:i<(jB l).length:=by rw [zI];exact e
  have g:=d.ok;have S:=d.lF;have F:=d.Xf;have B:=d.lim;obtain⟨Y,o1,H,a2,a3,I,a5⟩:=(V M d).at h;have o:(jB l)[i]=K4 l[i]:=by simp [jB]
  have f:=I 0 2 (by omega) (by omega);rw [o] at f;have C:=hs.2 l[i] (abD e);have Q:l.drop i=l[i]::l.drop (i+1):=Z6 e;generalize hX:l[i]=X at *;obtain⟨u,D⟩:=X;obtain⟨z,G⟩:=s;simp only [Y7,K4,K9,adI,ahr] at f w C r t;have Z:=λ(β:Type) (l:List P9) (off:Nat) (vs:List o7) (k:Mem->Option β)=>Zl (β:=β) g F B l off vs k;have O:=λ(l:List P9)=>bg g l F;have A:=(d.nx (H7 g [o9 [iV (u:Int),iV (D:Int)]])).set (o9 (K4 (comb (z,G) (u,D))));obtain⟨c',x',M',L,J,K⟩:=ih (i+1) (by omega) (comb (z,G) (u,D)) tt (.ptr M.nx 0) _ N A (D6 (d.nx (H7 g _)).ok _ (d.nx (H7 g _)).Xf rfl) (by simp [comb];omega) (by simp [comb];omega) (by omega);have q:=λx y ls env a b C W=>abY (x:=x) (y:=y) (ls:=ls) (env:=env) (a:=a) (b:=b) C W;have w1:rz ((z:Int)+(u:Int))=((z+u:Nat):Int):=by rw [Z0 (by omega) (by omega)];rfl
  refine⟨c',x',M',?_,J,?_⟩;rw [A8,← L];simp [Qg,dF g S,Z,O,w,H,f,e,K4,comb,aF (i:=i) (by omega),q,w1,afP];rw [Q];exact K
theorem Nf {m:Mem}(c:m.Ok)(p:m.lim<=m.nx){v:o7}(s:Nat×Nat)(l:List (Nat×Nat))(hs:Small l)(q:fT m 2 v (jB l))(A:s.1<=20000000000000)(w:s.2<=1000000)(n fu:Nat)(e:l.length+1<=fu):
  ∃m',r9 KW fu (n+1) (.func 75) [.agg (K4 s),v] m=some [⟨.agg (K4 (iK s l)),m'⟩]∧Ext m m':=by
 have j:=q.len;rw [zI] at j;have E:=H7 c [o9 (K4 s),o9 [iV 0,iV 0]];have x:At m.nx (ext m [o9 (K4 s),o9 [iV 0,iV 0]]) _:=At.start E.ok (by simp) (by rw [E.lim];exact p);obtain⟨z,H,M',g,a,o⟩:=abZ (cf:=r9 KW fu n) (fu:=fu) (a0:=(s.1:Int)) (b0:=(s.2:Int)) l hs (λM h=>q.ext (h.ext E (aP _))) j l.length 0 (by omega) s .undef .undef (_) fu x (by rw [F7 c];rfl) (by omega) w e;have t:K8 (λd m k=>Qg (r9 KW fu n) fu none d m k) fu (nV9 (.agg [iV (s.1:Int),iV (s.2:Int)]) v (iV 0) (iV (l.length:Int)) .undef v (.ptr m.nx 0) .undef (.ptr (m.nx+1) 0)) (ext m [o9 (K4 s),o9 [iV 0,iV 0]]) []=_:=g;have f:M'.get (m.nx+1)=some (o9 [iV 0,iV 0]):=by rw [a.fr.old _ (by simp) (by omega),bR c];rfl
 have b:m.nx+1<M'.nx:=J3 (by simp) a.fr.nx;have i:M'.lim<=m.nx+1:=by have:=a.lim;omega
 have y:=sB i;have u:∀B,(M'.set (m.nx+1) B).get (m.nx+1)=some B:=λB=>D6 a.ok _ b rfl;have EM:=a.ext E (aP _);refine⟨M'.set (m.nx+1) (o9 (K4 (iK s l))),?_,?_⟩;rw [K9] at o;rw [enter (sf:=f75) rfl rfl];generalize iK s l=r at *;obtain⟨C,D⟩:=r;obtain⟨F,G⟩:=s;simp only [K4] at *;simp [f75,dF c p,H6,j,t,o,f,y,u];exact EM.set b (by omega) _
theorem bs2 (z:List o7)(ps:List (Nat×Nat×OF))(ls:List o7)(env:T o7)(nid:Nat)(h:z.length=2):P7 2 1 z ps ls env nid=ob (lay ps ls env z) λcells=>if cells.length=2 then some (.slice nid 0 1 1,some (o9 cells)) else none:=iZ 2 z ps ls env nid h
theorem jK.ext {m m':Mem}{S:Nat->Prop}{a:List Ex}{v:o7}(h:jK m S a v)(e:Ext m m'):jK m' S a v:=by obtain⟨b,d,f⟩:=h;exact⟨b,d.mono e.nx (λi c _=>e.old i c) λ_ _ h=>h,I7.mono e.nx (λi c _=>e.old i c) (λ_ _ h=>h) a b f⟩
theorem Un:∀(l:List (Nat×Nat)) (x:Nat×Nat),x∈l->x.1<=(l.map (·.1)).sum
 | y::l,x,h=>by simp only [Z5,afq];rcases Y4.1 h with rfl | h;omega;have:=Un l x h;omega
theorem bU:∀l:List Ex,l.length<=U1 l
 | []=>by simp
 | e::l=>by have:=bU l;have:1<=ng e:=by {cases e;simp [ng]};simp [U1];omega
theorem pQ:∀(l:List Ex) (i:Nat) (h:i<l.length),ng l[i]<=U1 l
 | e::l,0,h=>by simp [U1]
 | e::l,i+1,h=>by have:=pQ l i (by simpa using h);simp [U1];omega
theorem Qq (d:Nat)(a:List Ex)(c:d<=100)(h:U1 a<=10000):Small (Bo d a):=by
 have w:=wV a d;refine⟨by have:=w.len;have:=bU a;omega,λx b=>⟨?_,?_⟩⟩;have:=Un _ x b;have:=w.le;omega
 have:=w.lv x b;omega
def C76 (K:Known)(n fu d:Nat):Prop:=∀(m:Mem) (v:o7) (a:List Ex),m.Ok->m.lim<=m.nx->jK m (λ_=>True) a v->U1 a<=10000->
 ∃out m',r9 K fu n (.func 76) [v,iV (d:Int)] m=some [⟨out,m'⟩]∧Ext m m'∧bZ m.nx 2 m' out (jB (Bo d a))
theorem ac0 {n fu d:Nat}(D:d<=100)(F:20000<=fu)(j:C76 KW (n+1) fu d){m:Mem}(q:m.Ok)(o:m.lim<=m.nx){row:List o7}{e:Ex}(h:aS m (λ_=>True) e row)(hp:ng e<=10000):
  ∃m',r9 KW fu (n+2) (.func 115) [.agg row,iV (d:Int)] m=some [⟨.agg (K4 (bE d e)),m'⟩]∧Ext m m':=by
 obtain⟨k,s,u,a⟩:=e;obtain⟨v,f,rfl,i,A⟩:=h;rw [ng] at hp;have C:=i.slice.H6;have l:=i.slice.cells;have E:=H7 q [o9 (r4 k s u v),o9 [iV 0,iV 0]];obtain⟨t,H,x,E1,O1⟩:=j (ext m [o9 (r4 k s u v),o9 [iV 0,iV 0]]) v a E.ok (by rw [E.lim];exact gI o E.nx) (jK.ext ⟨f,i,A⟩ E) (by omega);have w:=Qq d a D (by omega);obtain⟨c,y,E2⟩:=Nf E1.ok (by rw [E1.lim,E.lim];exact gI o (gI E.nx E1.nx)) (1,1) (Bo d a) w O1.slice (by simp) (by simp) n fu (by have:=w.1;have:=(wV a d).len;have:=bU a;omega);have g:r9 KW fu (n+1) (.func 75) [.agg [iV 1,iV 1],t] H=_:=y;have b:m.nx+1<c.nx:=J3 (by simp) (gI E1.nx E2.nx);have p:c.lim<=m.nx+1:=by rw [E2.lim,E1.lim,E.lim];omega
 have J:=sB p;have G:c.get (m.nx+1)=some (o9 [iV 0,iV 0]):=by rw [E2.old _ (J3 (by simp) E1.nx),E1.old _ (by simp),bR q];rfl
 have z:∀B,(c.set (m.nx+1) B).get (m.nx+1)=some B:=λB=>D6 E2.ok _ b rfl;have I:=Jp O1.slice;refine⟨c.set (m.nx+1) (o9 (K4 (bE d (.mk k s u a)))),?_,(E.trans (E1.trans E2)).set b (by omega) _⟩;rw [enter (sf:=f115) rfl rfl];rw [bE];generalize iK (1,1) (Bo d a)=r at *;obtain⟨K,L⟩:=r;simp only [K4] at *;simp [f115,dF q o,H6,C,l,x,g,J,G,z,I]
theorem ac3 {n fu d:Nat}(hd:d<=100)(H:20000<=fu)(C:C76 KW (n+1) fu d){m:Mem}(hm:m.Ok)(V:m.lim<=m.nx){v:o7}{rows:List (List o7)}(a:List Ex)(T:rD m (λ_=>True) 4 v rows)(U:I7 m (λ_=>True) a rows)(hp:U1 a<=10000):
  ∀(j i:Nat),i+j=a.length->∀(acc:List (Nat×Nat)) (c3 c6 out x8 x9:o7) (M:Mem) (N:Nat),Ext m M->bZ m.nx 2 M out (jB acc)->acc.length<=i->j+1<=N->
  ∃c3' c6' out' x8' x9' M',K8 (λenv m k=>Hr (r9 KW fu (n+2)) fu none env m k) N (abO v (iV (i:Int)) (iV (a.length:Int)) c3 v (.int .i64 ((d:Int)+1)) c6 out x8 x9 nS) M []=some [⟨.exit 0,(abO v (iV (a.length:Int)) (iV (a.length:Int)) c3' v (.int .i64 ((d:Int)+1)) c6' out' x8' x9' nS),M',[],none⟩]∧
   Ext m M'∧bZ m.nx 2 M' out' (jB (acc++Bo (d+1) (a.drop i))):=by
 have q:=I7.len U;have z:=T.slice.len;rw [q] at z;have a0:=bU a;intro j;induction j with
 | zero=>
  intro i B acc c3 c6 out x8 x9 M N E O F hN;obtain⟨N,rfl⟩:∃k,N=k+1:=⟨N-1,by omega⟩;obtain rfl:i=a.length:=by omega
  refine⟨.bool false,c6,out,x8,x9,M,?_,E,?_⟩;rw [A8];simp [Hr];rw [afu,Bo,abI];exact O
 | succ j ih=>
  intro i B acc c3 c6 out x8 x9 M N E O F hN;obtain⟨N,rfl⟩:∃k,N=k+1:=⟨N-1,by omega⟩;have h:i<a.length:=by omega
  have l:i<rows.length:=by omega
  have D:=E.ok;have p:M.lim<=M.nx:=by rw [E.lim];exact gI V E.nx
  obtain⟨a7,o1,Y,a2,a3,Z,a5⟩:=(T.slice.ext E).at l;have o:=I7.get U i h l;have J:=o.row;have y:=Z 0 4 (by omega) (by omega);rw [K9,L6 (by omega),Y7] at y;have G:a.drop i=a[i]::a.drop (i+1):=Z6 h;have a6:=pQ a i h;have u:aS M (λ_=>True) a[i] rows[i]:=NR E o;generalize hX:a[i]=X at *;generalize hR:rows[i]=R at *;have E1:=H7 D [o9 R];obtain⟨x,P,E2⟩:=ac0 hd H C E1.ok (by rw [E1.lim];exact gI p E1.nx) (e:=X) (row:=R) (NR E1 u) (by omega);have hs:(bE d X).1<=ng X∧(bE d X).2<=21+d:=⟨(Zi X d).2.2.1,(Zi X d).2.2.2⟩;generalize hb:bE d X=b at *;obtain⟨f,c⟩:=b;simp only at hs;have s:=E2.ok;have I:x.lim<=x.nx:=by rw [E2.lim,E1.lim];exact gI p (gI E1.nx E2.nx)
  have E3:=H7 s [o9 (K4 (f,c)),o9 (K4 (f,c+1))];have hx:fT (ext x [o9 (K4 (f,c)),o9 (K4 (f,c+1))]) 2 (.slice (x.nx+1) 0 1 1) [K4 (f,c+1)]:=by have:=zx (qW s [o9 (K4 (f,c))]) (K4 (f,c+1)) (by simp [K4]);exact this
  have O3:=((O.ext E1).ext E2).ext E3;have Eall:=E.trans (E1.trans (E2.trans E3));obtain⟨v5,M5,Q,t,F5,W⟩:=Sl (lo:=m.nx) (rs:=2) (bytes:=16) (r:=K4 (f,c+1)) E3.ok (by rw [Eall.lim];exact V) Eall.nx (by omega) O3 hx (by simp [K4]) (by simp [K4,H6]) (by rw [zI];omega) ⟨by omega,by omega⟩;have po:=Jp t.slice;have w:jB acc ++ [K4 (f,c+1)]=jB (acc ++ [(f,c+1)]):=by simp [jB]
  rw [w] at t;have EM5:Ext m M5:=⟨F5.ok,gI Eall.nx F5.nx,F5.lim.trans Eall.lim,λi B=>(F5.old i B (by omega)).trans (Eall.old i B)⟩;obtain⟨c3',c6',out',x8',x9',M',S,q1,q2⟩:=ih (i+1) (by omega) (acc ++ [(f,c+1)]) tt ff v5 (.ptr M.nx 0) (.ptr x.nx 0) M5 N EM5 t (by simp;omega) (by omega);refine⟨c3',c6',out',x8',x9',M',?_,q1,?_⟩;obtain⟨x1,x2,x3,x4,x5,x6⟩:=qo D p;obtain⟨y1,y2,y3,y4,y5,y6⟩:=qo s I;have gR:x.get M.nx=some (o9 R):=by rw [E2.old _ (by simp),F7 D];rfl
  have w2:rz ((c:Int)+1)=(c:Int)+1:=Z0 (by omega) (by omega);have w3:rz (d:Int)=(d:Int):=Z0 (by omega) (by omega);have ed:decide ((d:Int)+1<=0)=false:=decide_eq_false (by omega);obtain⟨g,A⟩:=J;have L:wF (some (o9 (r4 0 0 [] nS))) 0 R=some (o9 R):=by rw [iY (by simp [g]) (by simp)];simp [g]
  have K:AO (some (o9 R)) 0 4=some (.agg R):=by rw [eX (by omega) (by omega),K9,L6 (by omega)]
  simp only [K4,show ((c+1:Nat):Int)=(c:Int)+1 from rfl] at Q P S ⊢;rw [A8,← S];simp [Hr,D7,F6,x1,x2,x3,x4,x5,x6,y1,y2,y3,y4,y5,y6,H6,Y,y,h,g,A,L,K,P,gR,w2,w3,ed,Q,po,bs2,aF (i:=i) (by omega)];rw [G,Bo,hb];simpa using q2
theorem afQ (n fu:Nat)(C:20000<=fu):∀d:Nat,d<=100->C76 KW (n+2*d+1) fu d:=by
 intro d;induction d with
 | zero=>
  intro U m v a j s h K;obtain⟨o,u,l⟩:=h;have b:=I7.len l;have c:=u.slice.len;rw [b] at c;match a,l with
  | [],l=>refine⟨nS,m,?_,Ext.refl j,bZ.nil _ _ _⟩;obtain⟨fu,rfl⟩:∃k,fu=k+1:=⟨fu-1,by omega⟩;rw [enter (sf:=f76) rfl rfl];simp [f76,Hr,A8,dF j s,H6,c]
  | e::a,l=>
   obtain⟨F,W,N,a2,a3,O,a5⟩:=u.slice.at (i:=0) (by rw [b];simp);have y:=I7.get l 0 (by simp) (by rw [b];simp);have E:=y.row;have t:=O 0 4 (by omega) (by omega);rw [K9,L6 (by omega),Y7] at t;generalize hR:o[0]'(by rw [b];simp)=R at *;have E3:=H7 j [o9 R,o9 (K4 (0,21))];have V:fT (ext m [o9 R,o9 (K4 (0,21))]) 2 (.slice (m.nx+1) 0 1 1) [K4 (0,21)]:=by have:=zx (qW j [o9 R]) (K4 (0,21)) (by simp [K4]);exact this
   obtain⟨Y,M5,I,w,F5,L⟩:=Sl (lo:=m.nx) (rs:=2) (bytes:=16) (r:=K4 (0,21)) E3.ok (by rw [E3.lim];exact s) E3.nx (by omega) (bZ.nil _ _ _) V (by simp [K4]) (by simp [K4,H6]) (by simp) ⟨by omega,by omega⟩;have G:=Jp w.slice;refine⟨Y,M5,?_,⟨F5.ok,gI E3.nx F5.nx,F5.lim.trans E3.lim,λi J=>(F5.old i J (by omega)).trans (E3.old i J)⟩,by simpa [Bo,jB] using w⟩;obtain⟨f,x⟩:=E;have H:wF (some (o9 (r4 0 0 [] nS))) 0 R=some (o9 R):=by rw [iY (by simp [f]) (by simp)];simp [f]
   obtain⟨fu,rfl⟩:∃k,fu=k+1:=⟨fu-1,by omega⟩;have D:(0:Int)<((a.length:Int)+1):=by omega
   rw [enter (sf:=f76) rfl rfl];simp only [K4,show ((0:Nat):Int)=0 from rfl,show ((21:Nat):Int)=21 from rfl] at I ⊢;have A:lG v none (λid q p _=>if 0<p then some (o7.ptr id q) else none) (λid q p _=>if 0<p then some (o7.ptr id q) else none)=some (.ptr F W):=by simpa using N
   simp [f76,Hr,A8,dF j s,H6,c,D,A,t,f,x,H,I,G,bs2]
 | succ d ih=>intro U m v a j s h K;obtain⟨o,u,l⟩:=h;have b:=I7.len l;have c:=u.slice.len;rw [b] at c;have T:=bU a;obtain⟨P,Q,z,Z,a0,M',g,X,M⟩:=ac3 (n:=n+2*d) (fu:=fu) (d:=d) (by omega) C (ih (by omega)) j s a u l K a.length 0 (by omega) [] .undef .undef nS .undef .undef m fu (Ext.refl j) (bZ.nil _ _ _) (by simp) (by omega);have S:K8 (λB m k=>Hr (r9 KW fu (n+2*d+2)) fu none B m k) fu (abO v (iV 0) (iV (a.length:Int)) .undef v (.int .i64 ((d:Int)+1)) .undef nS .undef .undef nS) m []=_:=g;refine⟨z,M',?_,X,by simpa using M⟩;have G:=Jp M.slice;rw [show n+2*(d+1)+1=(n+2*d+2)+1 from by omega,enter (sf:=f76) rfl rfl];simp [f76,dF j s,H6,c,S,G]
theorem afR (n fu d:Nat)(a:20000<=fu)(b:d<=100)(c:2*d+1<=n):C76 KW n fu d:=by
 have:=afQ (n-(2*d+1)) fu a d b
 rwa [show n-(2*d+1)+2*d+1=n from by omega] at this
theorem aG.ext {m m':Mem}{S:Nat->Prop}{a:List V4}{v:o7}(h:aG m S a v)(e:Ext m m'):aG m' S a v:=by obtain⟨b,d,f⟩:=h;exact⟨b,d.mono e.nx (λi c _=>e.old i c) λ_ _ h=>h,I4.mono e.nx (λi c _=>e.old i c) (λ_ _ h=>h) a b f⟩
theorem iq:∀l:List V4,l.length<=V6 l
 | []=>by simp
 | e::l=>by have:=iq l;have:1<=stP e:=by {cases e;simp [stP];omega};simp [V6];omega
theorem sG:∀(l:List V4) (i:Nat) (h:i<l.length),stP l[i]<=V6 l
 | e::l,0,h=>by simp [V6]
 | e::l,i+1,h=>by have:=sG l i (by simpa using h);simp [V6];omega
theorem Zm (l:List V4)(d:Nat):(bS d l).1<=V6 l∧(bS d l).2<=21+d:=⟨(KH l d).2.2.1,(KH l d).2.2.2⟩
theorem ac4 {x i:OF}{ls:List o7}{env:T o7}{a b:o7}(d:x ls env=.agg [a,b])(hi:i ls env=.int .i64 0):Fu 1 2 x i ls env=some a:=by show vg (x ls env) (λc=>idx 2 (i ls env) λk=>nO (Nat.mul k 1) c)=_;rw [d,hi];rfl
theorem ac5 {x i:OF}{ls:List o7}{env:T o7}{a b:o7}(d:x ls env=.agg [a,b])(hi:i ls env=.int .i64 1):Fu 1 2 x i ls env=some b:=by show vg (x ls env) (λc=>idx 2 (i ls env) λk=>nO (Nat.mul k 1) c)=_;rw [d,hi];rfl
theorem SG (a b c:Nat×Nat):comb (comb a b) c=comb a (comb b c):=by simp only [comb,ahQ];omega
def C35 (K:Known)(n fu d:Nat):Prop:=∀(m:Mem) (v:o7) (l:List V4),m.Ok->m.lim<=m.nx->aG m (λ_=>True) l v->V6 l<=10000->
 ∃m',r9 K fu n (.func 35) [v,iV (d:Int)] m=some [⟨.agg (K4 (bS d l)),m'⟩]∧Ext m m'
theorem Hz {n fu d:Nat}(hd:d<=100)(a1:20000<=fu)(E:C35 KW (n+1) fu d){M:Mem}(hM:M.Ok){q:Nat}(u:q<M.nx)(t:M.lim<=q){s:Nat×Nat}(hg:M.get q=some (o9 (K4 s)))(K:s.1<=100000)(L:s.2<=1000)
  {vt vf y:o7} {i:Nat} {b:List V4} (hi:i<2) (hb:[vt,vf][i]?=some y) (v:aG M (λ_=>True) b y) (hp:V6 b<=10000) (R S T U V W X Y D O P j:o7) (N:Nat):
  ∃x14' M',K8 (λenv m k=>Ho (r9 KW fu (n+1)) fu none env m k) (N+1) (Na R S T U V (.int .i64 ((d:Int)+1)) W X Y (iV (i:Int)) D (.agg [vt,vf]) O (.ptr q 0) P j) M []=K8 (λenv m k=>Ho (r9 KW fu (n+1)) fu none env m k) N (Na R S T U V (.int .i64 ((d:Int)+1)) W X Y (.int .i64 ((i+1:Nat):Int)) tt (.agg [vt,vf]) y (.ptr q 0) x14' j) M' []∧
   At q M M'∧M'.get q=some (o9 (K4 (comb s ((bS d b).1,(bS d b).2+1)))):=by
 obtain⟨g,Z,E1⟩:=E M y b hM (by omega) v hp;obtain⟨F,G⟩:=Zm b d;generalize hB:bS d b=B at *;obtain⟨e,c⟩:=B;obtain⟨A,C⟩:=s;simp only at F G K L;have f:=E1.ok;have r:g.lim<=g.nx:=by rw [E1.lim];have:=E1.nx;omega
 have E2:=H7 f [o9 (K4 (e,c)),o9 (K4 (e,c+1))];have w:fT (ext g [o9 (K4 (e,c)),o9 (K4 (e,c+1))]) 2 (.slice (g.nx+1) 0 1 1) (jB [(e,c+1)]):=by have:=zx (qW f [o9 (K4 (e,c))]) (K4 (e,c+1)) (by simp [K4]);exact this
 obtain⟨z,g3,E3⟩:=Nf E2.ok (by rw [E2.lim];exact gI r E2.nx) (A,C) [(e,c+1)] ⟨by simp,by simp;omega⟩ w (by simp only;omega) (by simp only;omega) n fu (by simp;omega);have Eall:=E1.trans (E2.trans E3);have I:q<z.nx:=J3 u Eall.nx;have H:z.lim<=q:=by rw [Eall.lim];exact t
 have st:=sB H;have l:z.get q=some (o9 (K4 (A,C))):=(Eall.old q u).trans hg;have o:(ext g [o9 (K4 (e,c))]).get q=some (o9 (K4 (A,C))):=by rw [bg f _ (J3 u E1.nx),E1.old q u,hg]
 refine⟨.ptr g.nx 0,z.set q (o9 (K4 (comb (A,C) (e,c+1)))),?_,((At.start hM u t).nx Eall).set _,D6 Eall.ok _ I rfl⟩;obtain⟨y1,y2,y3,y4,y5,y6⟩:=qo f r;have w2:rz ((c:Int)+1)=(c:Int)+1:=Z0 (by omega) (by omega);have w3:rz (d:Int)=(d:Int):=Z0 (by omega) (by omega);have J:∀(Q:Type) (p:o7->Q) (q:Q),dW y p q=q:=λQ p q=>by obtain⟨a0,h,_⟩:=v;exact h.slice.nN p q
 have q0:=λx i ls env w hi=>ac4 (x:=x) (i:=i) (ls:=ls) (env:=env) (a:=vt) (b:=vf) w hi;have q1:=λx i ls env w hi=>ac5 (x:=x) (i:=i) (ls:=ls) (env:=env) (a:=vt) (b:=vf) w hi;rcases i with _ | _ | i
 rotate_left 2
 omega;all_goals
  obtain rfl:=Y5 hb;simp only [K4,iK,List.foldl,comb,show ((c+1:Nat):Int)=(c:Int)+1 from rfl] at Z g3 l o ⊢;rw [A8];simp [Ho,D7,F6,y1,y2,y3,y4,y5,y6,H6,bs2,Z,g3,l,o,st,w2,w3,J,q0,q1,afP,show rz 1=1 from Z0 (by decide) (by decide),show rz (1+1)=2 from Z0 (by decide) (by decide),show rz 2=2 from Z0 (by decide) (by decide)]
theorem Wu {n fu d:Nat}(K:d<=100)(z:20000<=fu)(y:C35 KW (n+1) fu d){M:Mem}(Q:M.Ok){q:Nat}(L:q<M.nx)(A:M.lim<=q){s:Nat×Nat}(T:M.get q=some (o9 (K4 s)))(U:s.1<=20000)(V:s.2<=500)
  {vt vf:o7} {t f:List V4} (W:aG M (λi=>i≠q) t vt) (S:aG M (λi=>i≠q) f vf) (J:V6 t<=10000) (I:V6 f<=10000) (h j o p r u w x c e g b:o7) (N:Nat):
  ∃x12' x14' M',K8 (λenv m k=>Ho (r9 KW fu (n+1)) fu none env m k) (N+3) (Na h j o p r (.int .i64 ((d:Int)+1)) u w x (iV 0) c (.agg [vt,vf]) e (.ptr q 0) g b) M []=some [⟨.exit 2,(Na h j o p r (.int .i64 ((d:Int)+1)) u w x (iV 2) ff (.agg [vt,vf]) x12' (.ptr q 0) x14' b),M',[],none⟩]∧
   At q M M'∧M'.get q=some (o9 (K4 (comb (comb s ((bS d t).1,(bS d t).2+1)) ((bS d f).1,(bS d f).2+1)))):=by
 have B:∀(m:Mem) (l:List V4) (v:o7),aG m (λi=>i≠q) l v->aG m (λ_=>True) l v:=λm l v ⟨a,D,E⟩=>⟨a,D.mono (aP _) (λ_ _ _=>rfl) λ_ _ _=>trivial,I4.mono (aP _) (λ_ _ _=>rfl) (λ_ _ _=>trivial) l a E⟩;obtain⟨X,M1,O,A1,G1⟩:=Hz (vt:=vt) (vf:=vf) (i:=0) K z y Q L A T (by omega) (by omega) (by omega) rfl (B _ _ _ W) J h j o p r u w x c e g b (N+2);have F:aG M1 (λ_=>True) f vf:=by obtain⟨a,D,E⟩:=S;exact⟨a,D.mono A1.fr.nx (λi G H=>A1.fr.old i G H) λ_ _ _=>trivial,I4.mono A1.fr.nx (λi G H=>A1.fr.old i G H) (λ_ _ _=>trivial) f a E⟩
 have R:=Zm t d;obtain⟨Y,M2,P,A2,G2⟩:=Hz (vt:=vt) (vf:=vf) (i:=1) K z y A1.ok A1.Xf A1.lim G1 (by simp only [comb];omega) (by simp only [comb];omega) (by omega) rfl F I h j o p r u w x tt vt X b (N+1);have C:K8 (λenv m k=>Ho (r9 KW fu (n+1)) fu none env m k) (N+3) (Na h j o p r (.int .i64 ((d:Int)+1)) u w x (iV 0) c (.agg [vt,vf]) e (.ptr q 0) g b) M []=_:=O;refine⟨vf,Y,M2,?_,⟨L,A,A1.fr.trans (A2.fr.down A1.fr.nx)⟩,G2⟩;rw [C,P,A8];simp [Ho]
theorem Wv {n fu d:Nat}(hd:d<=100)(ah:20000<=fu)(a8:C35 KW (n+1) fu d)(a9:C76 KW (n+1) fu d){m:Mem}{p:Nat}(hm:m.Ok)(hp:p+1<m.nx)(hl:m.lim<=p){v:o7}{rows:List (List o7)}(l:List V4)(h1:rD m (λi=>i<p) 5 v rows)(h2:I4 m (λi=>i<p) l rows)(aw:V6 l<=10000):
  ∀(j i:Nat),i+j=l.length->∀(s:Nat×Nat) (c3 c6 x8 x9 c10 x11 x12 x13 x14:o7) (M:Mem) (N:Nat),At (p+1) m M->M.get (p+1)=some (o9 (K4 s))->s.1<=10000*i->s.2<=1000->j+1<=N->
  ∃c3' c6' x8' x9' c10' x11' x12' x13' x14' M',K8 (λenv m k=>Hq (r9 KW fu (n+1)) fu none env m k) N (Na v (iV (i:Int)) (iV (l.length:Int)) c3 v (.int .i64 ((d:Int)+1)) c6 (.ptr p 0) x8 x9 c10 x11 x12 x13 x14 (.ptr (p+1) 0)) M [] =
   some [⟨.exit 0,(Na v (iV (l.length:Int)) (iV (l.length:Int)) c3' v (.int .i64 ((d:Int)+1)) c6' (.ptr p 0) x8' x9' c10' x11' x12' x13' x14' (.ptr (p+1) 0)),M',[],none⟩]∧At (p+1) m M'∧M'.get (p+1)=some (o9 (K4 (comb s (bS (d+1) (l.drop i))))):=by
 have D:=I4.len h2;have Y:=h1.slice.len;rw [D] at Y;have au:=iq l;intro j;induction j with
 | zero=>
  intro i c s c3 c6 x8 x9 c10 x11 x12 x13 x14 M N b hg al am hN;obtain⟨N,rfl⟩:∃k,N=k+1:=⟨N-1,by omega⟩;obtain rfl:i=l.length:=by omega
  refine⟨.bool false,c6,x8,x9,c10,x11,x12,x13,x14,M,?_,b,?_⟩;rw [A8];simp [Hq];rw [afu,bS,hg];simp [comb]
 | succ j ih=>
  intro i c s c3 c6 x8 x9 c10 x11 x12 x13 x14 M N b hg al am hN;obtain⟨N,rfl⟩:∃k,N=k+1:=⟨N-1,by omega⟩;have u:i<l.length:=by omega
  have w:i<rows.length:=by omega
  have hM:=b.ok;have ab:=b.lF;have pr:∀i,i<m.nx->i<p->M.get i=m.get i:=λi c hq=>b.fr.old i c (by omega);obtain⟨b0,o1,a1,a2,a3,a4,a5⟩:=(rD.mono h1 b.fr.nx pr (S':=λi=>i<p) λ_ _ h=>h).slice.at w;have x:=I4.get h2 i u w;have ax:=x.row;have O:=a4 0 5 (by omega) (by omega);rw [K9,L6 (by omega),Y7] at O;have ae:l.drop i=l[i]::l.drop (i+1):=Z6 u;have ak:=sG l i u;have E:nI M (λi=>i<p) l[i] rows[i]:=nI.mono b.fr.nx pr (λ_ _ h=>h) _ _ x;generalize hX:l[i]=X at *;generalize hR:rows[i]=R at *;obtain⟨I,J,e,t,f⟩:=X;obtain⟨ve,L,K,re,rt,rf,rfl,A,af,F,an,C,ag⟩:=E;rw [stP] at ak;have E1:=H7 hM [o9 (r5 I J ve L K)];have Q:=b.nx E1;obtain⟨ao,m2,g2,E2,O2⟩:=a9 (ext M [o9 (r5 I J ve L K)]) ve e E1.ok Q.lF
   ⟨re,A.mono E1.nx (λi c _=>E1.old i c) λ_ _ _=>trivial,I7.mono E1.nx (λi c _=>E1.old i c) (λ_ _ _=>trivial) _ _ af⟩ (by omega)
  have S:=Q.nx E2;have sm:=Qq d e hd (by omega);have az:=(wV e d).len;have ar:=bU e;obtain⟨y,g3,E3⟩:=Nf E2.ok S.lF (1,1) (Bo d e) sm O2.slice (by simp) (by simp) n fu (by omega);have z:=S.nx E3;have ay:(iK (1,1) (Bo d e)).1<=1+U1 e∧(iK (1,1) (Bo d e)).2<=21+d:=⟨(Bp (wV e d)).2.2.1,(Bp (wV e d)).2.2.2⟩;generalize hW:iK (1,1) (Bo d e)=W at *;have E4:=H7 E3.ok [o9 (K4 W)];have T:=z.nx E4;have E14:=E1.trans (E2.trans (E3.trans E4));have av:M.nx<=y.nx:=gI E1.nx (gI E2.nx E3.nx);have Z:M.nx<y.nx:=J3 (by simp) (gI E2.nx E3.nx);have tr:∀(l:List V4) (v:o7) (rows:List (List o7)),rD M (λi=>i<p) 5 v rows->I4 M (λi=>i<p) l rows->aG (ext y [o9 (K4 W)]) (λi=>i≠y.nx) l v:=λl v rows x1 x2=>⟨rows,x1.mono E14.nx (λi c _=>E14.old i c) λi _ h=>by have:=b.Xf;omega,I4.mono E14.nx (λi c _=>E14.old i c) (λi _ h=>by have:=b.Xf;omega) _ _ x2⟩
  obtain⟨N2,ac⟩:∃k,fu=k+3:=⟨fu-3,by omega⟩;obtain⟨x12',x14',m5,g5,a,G5⟩:=Wu hd ah a8 E4.ok (q:=y.nx) (by simp) (by rw [E4.lim];exact z.lF) (s:=W) (by rw [F7 E3.ok];rfl) (by omega) (by omega) (tr t L rt F an) (tr f K rf C ag) (by omega) (by omega)
   v (iV (i:Int)) (iV (l.length:Int)) tt v ff (.ptr p 0) (.ptr M.nx 0) c10 x12 x14 (.ptr (p+1) 0) N2
  rw [← ac] at g5;have aq:=Zm t d;have ap:=Zm f d;have U:(bSt (d+1) (.mk I J e t f))=comb (comb W ((bS d t).1,(bS d t).2+1)) ((bS d f).1,(bS d f).2+1):=by rw [bSt,← hW];rfl
  have ad:(comb (comb W ((bS d t).1,(bS d t).2+1)) ((bS d f).1,(bS d f).2+1)).1<=10000∧(comb (comb W ((bS d t).1,(bS d t).2+1)) ((bS d f).1,(bS d f).2+1)).2<=1000:=by simp only [comb];omega
  rw [← U] at G5 ad;generalize hB:bSt (d+1) (.mk I J e t f)=B at *;have r:=a.ok;have V:m5.lim<=m5.nx:=a.lF;have a0:m5.get (p+1)=some (o9 (K4 s)):=by have h0:p+1<M.nx:=b.Xf;rw [a.fr.old _ (by simp;omega) (by omega),bg E3.ok _ (by omega),E3.old _ (by have:=E2.nx;simp at this;omega),E2.old _ (by simp;omega),bg hM _ h0,hg]
  have E6:=H7 r [o9 (K4 B)];have hx:fT (ext m5 [o9 (K4 B)]) 2 (.slice m5.nx 0 1 1) (jB [B]):=zx r (K4 B) (by simp [K4]);obtain⟨m7,g7,E7⟩:=Nf E6.ok (by rw [E6.lim];exact gI V E6.nx) s [B] ⟨by simp,by simp;omega⟩ hx (by omega) (by omega) n fu (by simp;omega);have g:At (p+1) m m5:=⟨b.lt,b.limp,T.fr.trans ⟨a.ok,a.fr.nx,a.fr.lim,λi c hn=>a.fr.old i (by have:=T.fr.nx;omega) (by have:=b.fr.nx;omega)⟩⟩;have o:=(g.nx E6).nx E7;have aa:=o.set (o9 (K4 (comb s B)));obtain⟨c3',c6',x8',x9',c10',x11',G,x13',H,M',gg,q1,q2⟩:=ih (i+1) (by omega) (comb s B) tt ff (.ptr M.nx 0) (iV 2) ff (.agg [L,K]) x12' (.ptr y.nx 0) x14' (m7.set (p+1) (o9 (K4 (comb s B)))) N aa (D6 o.ok _ o.Xf rfl) (by simp only [comb];omega) (by simp only [comb];omega) (by omega);refine⟨c3',c6',x8',x9',c10',x11',G,x13',H,M',?_,q1,?_⟩;obtain⟨x1,x2,x3,x4,x5,x6⟩:=qo hM ab;obtain⟨y1,y2,y3,y4,y5,y6⟩:=qo E3.ok z.lF;obtain⟨z1,z2,z3,z4,z5,z6⟩:=qo r V;have aj:m7.lim<=p+1:=o.lim;have st:=sB aj;have ai:m7.get (p+1)=some (o9 (K4 s)):=by rw [E7.old _ (by have:=g.Xf;simp;omega),bg r _ g.Xf,a0]
  have P:y.get M.nx=some (o9 (r5 I J ve L K)):=by rw [E3.old _ (J3 (by simp) E2.nx),E2.old _ (by simp),F7 hM];rfl
  have a7:(ext y [o9 (K4 W)]).get M.nx=some (o9 (r5 I J ve L K)):=by rw [bg E3.ok _ Z,P]
  have w3:rz (d:Int)=(d:Int):=Z0 (by omega) (by omega);have ed:decide ((d:Int)+1<=0)=false:=decide_eq_false (by omega);have ce:=A.slice.cells;have ct:=F.slice.cells;have cf:=C.slice.cells;have oe:=A.slice.H6;have ot:=F.slice.H6;have of:=C.slice.H6;have po:=Jp O2.slice;obtain⟨W1,W2⟩:=W;obtain⟨B1,B2⟩:=B;obtain⟨s1,s2⟩:=s;simp only [K4,iK,List.foldl,comb,Y7] at *;have a6:r9 KW fu (n+1) (.func 75) [.agg [iV 1,iV 1],ao] m2=_:=g3;rw [A8,← gg];simp [Hq,D7,F6,x1,x2,x3,x4,x5,x6,y1,y2,y3,y4,y5,y6,z1,z2,z3,z4,z5,z6,bs2,a1,O,u,ce,ct,cf,oe,ot,of,g2,a6,g5,g7,G5,a0,st,ai,P,a7,w3,ed,po,afP,aF (i:=i) (by omega)];rw [ae,bS,hB,← SG];exact q2
theorem afS (fu:Nat)(w:20000<=fu):∀d n:Nat,d<=100->C35 KW (n+2*d+2) fu d:=by
 intro d;induction d with
 | zero=>
  intro n hd m v a j x h P;obtain⟨rows,u,o⟩:=h;have b:=I4.len o;have c:=u.slice.len;rw [b] at c;obtain⟨fu,rfl⟩:∃k,fu=k+1:=⟨fu-1,by omega⟩;match a,o with
  | [],o=>refine⟨ext m [o9 (K4 (0,0)),o9 (K4 (0,0))],?_,H7 j _⟩;rw [enter (sf:=f35) rfl rfl];simp [f35,Hq,A8,dF j x,H6,c,bS,K4]
  | e::a,o=>
   obtain⟨id1,o1,U,V,a3,W,a5⟩:=u.slice.at (i:=0) (by rw [b];simp);have z:=I4.get o 0 (by simp) (by rw [b];simp);have K:=z.row;have t:=W 0 5 (by omega) (by omega);rw [K9,L6 (by omega),Y7] at t;generalize hR:rows[0]'(by rw [b];simp)=R at *;refine⟨ext m [o9 (K4 (0,21)),o9 (K4 (0,0)),o9 R],?_,H7 j _⟩;obtain⟨f,y⟩:=K;have L:wF (some (o9 (r5 0 [] nS nS nS))) 0 R=some (o9 R):=by rw [iY (by simp [f]) (by simp)];simp [f]
   have l:(0:Int)<((a.length:Int)+1):=by omega
   have g4:(ext m [o9 [iV 0,iV 0],o9 [iV 0,iV 0]]).get id1=m.get id1:=bg j _ V;have C:lG v none (λid s q _=>if 0<q then some (o7.ptr id s) else none) (λid s q _=>if 0<q then some (o7.ptr id s) else none)=some (.ptr id1 o1):=by simpa using U
   rw [enter (sf:=f35) rfl rfl];simp [f35,Hq,A8,dF j x,H6,c,l,C,t,f,y,L,g4,bS,K4]
 | succ d ih=>
  intro n hd m v a j x h P;obtain⟨rows,u,o⟩:=h;have b:=I4.len o;have c:=u.slice.len;rw [b] at c;have a0:=iq a;have E:=H7 j [o9 (K4 (0,0)),o9 (K4 (0,0))];have hA:At (m.nx+1) (ext m [o9 (K4 (0,0)),o9 (K4 (0,0))]) _:=At.start E.ok (by simp) (by rw [E.lim];omega);have F:rD (ext m [o9 (K4 (0,0)),o9 (K4 (0,0))]) (λi=>i<m.nx) 5 v rows:=by have:=rD.mono (m':=ext m [o9 (K4 (0,0)),o9 (K4 (0,0))]) u E.nx (λi I _=>E.old i I) (S':=λi=>i<m.nx) λ_ h _=>h;exact this
  have G:I4 (ext m [o9 (K4 (0,0)),o9 (K4 (0,0))]) (λi=>i<m.nx) a rows:=I4.mono E.nx (λi I _=>E.old i I) (λ_ h _=>h) _ _ o;obtain⟨X,Y,a6,a7,O,S,M,T,N,M',g,A,Q⟩:=Wv (d:=d) (n:=n+2*d+2) (p:=m.nx) (by omega) w (by have:=ih (n+1) (by omega);rwa [show n+1+2*d+2=n+2*d+2+1 from by omega] at this) (afR _ _ _ w (by omega) (by omega)) E.ok (by simp) (by rw [E.lim];exact x) a F G P a.length 0 (by omega) (0,0) .undef .undef .undef .undef .undef .undef .undef .undef .undef (_) fu hA (by rw [bR j];rfl) (by simp) (by simp) (by omega);have Z:K8 (λD m k=>Hq (r9 KW fu (n+2*d+3)) fu none D m k) fu (Na v (iV 0) (iV (a.length:Int)) .undef v (.int .i64 ((d:Int)+1)) .undef (.ptr m.nx 0) .undef .undef .undef .undef .undef .undef .undef (.ptr (m.nx+1) 0)) (ext m [o9 [iV 0,iV 0],o9 [iV 0,iV 0]]) []=_:=g;rw [K9,show comb (0,0) (bS (d+1) a)=bS (d+1) a from by simp [comb]] at Q;have H:M'.get m.nx=some (o9 [iV 0,iV 0]):=by rw [A.fr.old _ (by simp) (by omega),F7 j];rfl
  have l:m.nx<M'.nx:=J3 (by simp) A.fr.nx;have J:M'.lim<=m.nx:=by have:=A.fr.lim;rw [E.lim] at this;omega
  have st:=sB J;have gs:∀B,(M'.set m.nx B).get m.nx=some B:=λB=>D6 A.ok _ l rfl;refine⟨M'.set m.nx (o9 (K4 (bS (d+1) a))),?_,(A.ext E (by omega)).set l (by omega) _⟩;generalize bS (d+1) a=r at *;obtain⟨r1,r2⟩:=r;simp only [K4] at *;rw [show n+2*(d+1)+2=(n+2*d+3)+1 from by omega,enter (sf:=f35) rfl rfl];simp [f35,dF j x,H6,c,Z,H,Q,st,gs]
theorem afT (n fu d:Nat)(a:20000<=fu)(b:d<=100)(c:2*d+2<=n):C35 KW n fu d:=by
 have:=afS fu a d (n-(2*d+2)) b
 rwa [show n-(2*d+2)+2*d+2=n from by omega] at this
theorem Zn {m:Mem}(x:m.Ok)(u:m.lim<=m.nx){v:o7}{l:List V4}(h:aG m (λ_=>True) l v)(hp:V6 l<=10000)(n fu:Nat)(f:20000<=fu):
  ∃m',r9 KW fu (n+50) (.func 15) [v] m=some [⟨.tuple [.int .i64 (nK l).1,.int .i64 (nK l).2],m'⟩]∧Ext m m':=by
 obtain⟨j,w,E1⟩:=afT (n+49) fu 22 f (by omega) (by omega) m v l x u h hp;have y:=Zm l 22;rw [← Zj l];generalize bS 22 l=r at *;obtain⟨d,e⟩:=r;have b:=E1.ok;have g:j.lim<=j.nx:=by rw [E1.lim];exact gI u E1.nx
 obtain⟨k,o,p,q,s,t⟩:=qo b g;refine⟨ext j [o9 (K4 (d,e))],?_,E1.trans (H7 b _)⟩;have a:r9 KW fu (n+49) (.func 35) [v,iV 22] m=_:=w;rw [enter (sf:=f15) rfl rfl];simp only [K4] at *;by_cases h1:500<d;have c:decide ((500:Int)<(d:Int))=true:=decide_eq_true (by omega);simp [f15,D7,F6,k,o,p,q,s,t,a,c,h1];have c:decide ((500:Int)<(d:Int))=false:=decide_eq_false (by omega);by_cases h2:20<e;have i:decide ((20:Int)<(e:Int))=true:=decide_eq_true (by omega);simp [f15,D7,F6,k,o,p,q,s,t,a,c,i,h1,h2];have i:decide ((20:Int)<(e:Int))=false:=decide_eq_false (by omega);simp [f15,D7,F6,k,o,p,q,s,t,a,c,i,h1,h2]
def C31 (K:Known)(n fu:Nat)(k:Nat):Prop:=∀(m:Mem) (v1 v2:o7) (a:List Ex),m.Ok->m.lim<=m.nx->jK m (λ_=>True) a v1->jK m (λ_=>True) a v2->bF a<=k->U1 a<=10000->
 ∃m',r9 K fu n (.func 31) [v1,v2] m=some [⟨.bool true,m'⟩]∧Ext m m'
theorem afU {n fu k:Nat}(l:C31 KW n fu k){m:Mem}(r:m.Ok)(q:m.lim<=m.nx){s t:List o7}{e:Ex}(y:aS m (λ_=>True) e s)(z:aS m (λ_=>True) e t)(A:wU e<=k+1)(hp:ng e<=10000):
  ∃m',r9 KW fu (n+1) (.func 66) [.agg s,.agg t] m=some [⟨.bool true,m'⟩]∧Ext m m':=by
 obtain⟨d,f,h,a⟩:=e;obtain⟨o,b,rfl,i,u⟩:=y;obtain⟨p,c,rfl,j,v⟩:=z;rw [wU] at A;rw [ng] at hp;have w:=i.slice.cells;have B:=i.slice.H6;have x:=j.slice.cells;have C:=j.slice.H6;have E:=H7 r [o9 (r4 d f h o),o9 (r4 d f h p)];obtain⟨m',g,E'⟩:=l (ext m [o9 (r4 d f h o),o9 (r4 d f h p)]) o p a E.ok (by rw [E.lim];exact gI q E.nx) (jK.ext ⟨b,i,u⟩ E) (jK.ext ⟨c,j,v⟩ E) (by omega) (by omega);refine⟨m',?_,E.trans E'⟩;rw [enter (sf:=f66) rfl rfl];simp [f66,dF r q,H6,w,B,x,C,g]
theorem Bq:∀(l:List Ex) (i:Nat) (h:i<l.length),wU l[i]<=bF l
 | e::l,0,h=>by simp [bF];omega
 | e::l,i+1,h=>by have:=Bq l i (by simpa using h);simp [bF];omega
theorem ac6 {n fu k:Nat}(F:20000<=fu)(p:C31 KW n fu k){m:Mem}(V:m.Ok)(H:m.lim<=m.nx){t u:o7}{c d:List (List o7)}(a:List Ex)(v:rD m (λ_=>True) 4 t c)(w:I7 m (λ_=>True) a c)(y:rD m (λ_=>True) 4 u d)(x:I7 m (λ_=>True) a d)(U:bF a<=k+1)(hp:U1 a<=10000):
  ∀(j i:Nat),i+j=a.length->∀(c4 c5:o7) (M:Mem) (N:Nat),Ext m M->j+1<=N->
  ∃c5' M',K8 (λenv m k=>Ky (r9 KW fu (n+1)) fu none env m k) N (nV7 t u ff (iV (i:Int)) c4 c5 ff) M []=some [⟨.exit 0,(nV7 t u ff (iV (a.length:Int)) ff c5' ff),M',[],none⟩]∧Ext m M':=by
 have L:=I7.len w;have W:=I7.len x;have s:=v.slice.len;rw [L] at s;have D:=bU a;intro j;induction j with
 | zero=>
  intro i G c4 c5 M N E C;obtain⟨N,rfl⟩:∃k,N=k+1:=⟨N-1,by omega⟩;obtain rfl:i=a.length:=by omega
  refine⟨c5,M,?_,E⟩;rw [A8];simp [Ky,s]
 | succ j ih=>
  intro i G c4 c5 M N E C;obtain⟨N,rfl⟩:∃k,N=k+1:=⟨N-1,by omega⟩;have b:i<a.length:=by omega
  have f:(i:Int)<(a.length:Int):=by omega
  have B:=E.ok;have q:M.lim<=M.nx:=by rw [E.lim];exact gI H E.nx
  obtain⟨I,X,O,Z,p3,P,p5⟩:=(v.slice.ext E).at (i:=i) (by omega);obtain⟨J,Y,Q,q2,q3,R,q5⟩:=(y.slice.ext E).at (i:=i) (by omega);have S:=I7.get w i b (by omega);have T:=I7.get x i b (by omega);have l:=P 0 4 (by omega) (by omega);have o:=R 0 4 (by omega) (by omega);rw [K9,L6 (by omega),Y7] at l o;have g:∀r e,aS m (λ_=>True) e r->aS M (λ_=>True) e r:=λr e h=>NR E h;obtain⟨K,z,E2⟩:=afU p B q (g _ _ S) (g _ _ T) (by have:=Bq a i b;omega) (by have:=pQ a i b;omega);obtain⟨c5',M',A,E'⟩:=ih (i+1) (by omega) tt ff K N (E.trans E2) (by omega);refine⟨c5',M',?_,E'⟩;rw [A8,← A];simp [Ky,s,b,f,O,l,Q,o,z,aF (i:=i) (by omega)]
theorem afV (fu:Nat)(u:20000<=fu):∀r n:Nat,C31 KW (n+2*r+1) fu r:=by
 intro r;induction r with
 | zero=>
  intro n m y z a d v s t w x;obtain⟨b,i,j⟩:=s;obtain⟨c,o,p⟩:=t;have C:a=[]:=by
   cases a with
   | nil=>rfl
   | cons e l=>cases e;simp [bF,wU] at w
  subst C;have f:=i.slice.len;have h:=o.slice.len;rw [I7.len j] at f;rw [I7.len p] at h;refine⟨m,?_,Ext.refl d⟩;obtain⟨fu,rfl⟩:∃k,fu=k+1:=⟨fu-1,by omega⟩;rw [enter (sf:=f31) rfl rfl];simp [f31,Ky,A8,dF d v,H6,f,h]
 | succ r ih=>intro n m y z a d v s t w x;obtain⟨b,i,j⟩:=s;obtain⟨c,o,p⟩:=t;have f:=i.slice.len;have h:=o.slice.len;rw [I7.len j] at f;rw [I7.len p] at h;have D:=bU a;obtain⟨A,M',g,E⟩:=ac6 (n:=n+2*r+1) u (ih n) d v a i j o p (by omega) x a.length 0 (by omega) .undef .undef m fu (Ext.refl d) (by omega);have B:K8 (λq m k=>Ky (r9 KW fu (n+2*r+2)) fu none q m k) fu (nV7 y z ff (iV 0) .undef .undef ff) m []=_:=g;refine⟨M',?_,E⟩;rw [show n+2*(r+1)+1=(n+2*r+2)+1 from by omega,enter (sf:=f31) rfl rfl];simp [f31,f,h,B]
theorem afW (n fu r:Nat)(a:20000<=fu)(b:2*r+1<=n):C31 KW n fu r:=by
 have:=afV fu a r (n-(2*r+1))
 rwa [show n-(2*r+1)+2*r+1=n from by omega] at this
def C12 (K:Known)(n fu:Nat)(k:Nat):Prop:=∀(m:Mem) (v1 v2:o7) (a:List V4),m.Ok->m.lim<=m.nx->aG m (λ_=>True) a v1->aG m (λ_=>True) a v2->cu a<=k->V6 a<=10000->
 ∃m',r9 K fu n (.func 12) [v1,v2] m=some [⟨.bool true,m'⟩]∧Ext m m'
theorem Br:∀(l:List V4) (i:Nat) (h:i<l.length),zO l[i]<=cu l
 | e::l,0,h=>by simp [cu];omega
 | e::l,i+1,h=>by have:=Br l i (by simpa using h);simp [cu];omega
theorem ac7 {n fu k:Nat}(aa:20000<=fu)(Y:C31 KW n fu k)(D:C12 KW n fu k){m:Mem}(hm:m.Ok)(hl:m.lim<=m.nx){v1 v2:o7}{f g:List (List o7)}(a:List V4)(a1:rD m (λ_=>True) 5 v1 f)(a2:I4 m (λ_=>True) a f)(b1:rD m (λ_=>True) 5 v2 g)(b2:I4 m (λ_=>True) a g)(hk:cu a<=k+1)(hp:V6 a<=10000):
  ∀(j i:Nat),i+j=a.length->∀(c4 x5 x6 c7:o7) (M:Mem) (N:Nat),Ext m M->j+1<=N->
  ∃x5' x6' c7' M',K8 (λenv m k=>Ku (r9 KW fu n) fu none env m k) N (nV9 v1 v2 ff (iV (i:Int)) c4 x5 x6 c7 ff) M []=some [⟨.exit 0,(nV9 v1 v2 ff (iV (a.length:Int)) ff x5' x6' c7' ff),M',[],none⟩]∧Ext m M':=by
 have n1:=I4.len a2;have n2:=I4.len b2;have l1:=a1.slice.len;rw [n1] at l1;have a9:=iq a;intro j;induction j with
 | zero=>
  intro i B c4 x5 x6 c7 M N E hN;obtain⟨N,rfl⟩:∃k,N=k+1:=⟨N-1,by omega⟩;obtain rfl:i=a.length:=by omega
  refine⟨x5,x6,c7,M,?_,E⟩;rw [A8];simp [Ku,l1]
 | succ j ih=>
  intro i B c4 x5 x6 c7 M N E hN;obtain⟨N,rfl⟩:∃k,N=k+1:=⟨N-1,by omega⟩;have t:i<a.length:=by omega
  have O:(i:Int)<(a.length:Int):=by omega
  have hM:=E.ok;have H:M.lim<=M.nx:=by rw [E.lim];exact gI hl E.nx
  obtain⟨ab,o1,p1,p2,p3,p4,p5⟩:=(a1.slice.ext E).at (i:=i) (by omega);obtain⟨id2,o2,q1,q2,q3,q4,q5⟩:=(b1.slice.ext E).at (i:=i) (by omega);have r1:=I4.get a2 i t (by omega);have r2:=I4.get b2 i t (by omega);have S:=p4 0 5 (by omega) (by omega);have T:=q4 0 5 (by omega) (by omega);rw [K9,L6 (by omega),Y7] at S T;have P:∀r e,nI m (λ_=>True) e r->nI M (λ_=>True) e r:=λr e h=>abQ E h;have t1:=P _ _ r1;have t2:=P _ _ r2;have hL:=Br a i t;have hP:=sG a i t;generalize a[i]=X at *;generalize hR1:f[i]=R1 at *;generalize hR2:g[i]=R2 at *;obtain⟨q,s,ae,W,af⟩:=X;obtain⟨b,d,c,a3,a7,a5,rfl,v,I,z,Q,x,K⟩:=t1;obtain⟨l,p,o,a4,a8,a6,rfl,w,J,A,R,y,L⟩:=t2;rw [zO] at hL;rw [stP] at hP;have E1:=H7 hM [o9 (r5 q s b d c),o9 (r5 q s l p o)];have F:(ext M [o9 (r5 q s b d c),o9 (r5 q s l p o)]).lim<=(ext M [o9 (r5 q s b d c),o9 (r5 q s l p o)]).nx:=by rw [E1.lim];exact gI H E1.nx
  obtain⟨U,g2,E2⟩:=Y (ext M [o9 (r5 q s b d c),o9 (r5 q s l p o)]) b l ae E1.ok F (jK.ext ⟨a3,v,I⟩ E1) (jK.ext ⟨a4,w,J⟩ E1) (by omega) (by omega);have G:U.lim<=U.nx:=by rw [E2.lim];exact gI F E2.nx
  have E12:=E1.trans E2;obtain⟨V,g3,E3⟩:=D U d p W E2.ok G (aG.ext ⟨a7,z,Q⟩ E12) (aG.ext ⟨a8,A,R⟩ E12) (by omega) (by omega);have Z:V.lim<=V.nx:=by rw [E3.lim];exact gI G E3.nx
  have E13:=E12.trans E3;obtain⟨m4,g4,E4⟩:=D V c o af E3.ok Z (aG.ext ⟨a5,x,K⟩ E13) (aG.ext ⟨a6,y,L⟩ E13) (by omega) (by omega);obtain⟨x5',x6',c7',M',gg,E'⟩:=ih (i+1) (by omega) tt (.ptr M.nx 0) (.ptr (M.nx+1) 0) ff m4 N (E.trans (E13.trans E4)) (by omega);refine⟨x5',x6',c7',M',?_,E'⟩;obtain⟨y1,y2,y3,y4,y5,y6⟩:=qo hM H;have u:∀i,i<M.nx+2->U.get i=(ext M [o9 (r5 q s b d c),o9 (r5 q s l p o)]).get i:=λi B=>E2.old i (by simpa using B);have u3:∀i,i<M.nx+2->V.get i=(ext M [o9 (r5 q s b d c),o9 (r5 q s l p o)]).get i:=λi B=>by rw [E3.old i (J3 (by simpa using B) E2.nx),u i B]
  have ua:=u M.nx (by omega);have ub:=u (M.nx+1) (by omega);have uc:=u3 M.nx (by omega);have ud:=u3 (M.nx+1) (by omega);rw [y1] at ua uc;rw [y2] at ub ud;have C:(ext M [o9 (r5 q s b d c)]).get id2=M.get id2:=bg hM _ q2;have k1:=v.slice.cells;have k2:=z.slice.cells;have k3:=x.slice.cells;have k4:=w.slice.cells;have k5:=A.slice.cells;have k6:=y.slice.cells;have a0:=v.slice.H6;have l2:=z.slice.H6;have l3:=x.slice.H6;have l4:=w.slice.H6;have l5:=A.slice.H6;have l6:=y.slice.H6;rw [A8,← gg];simp [Ku,D7,F6,y1,y2,y3,y4,y5,y6,l1,t,O,p1,S,q1,T,C,g2,g3,g4,ua,ub,uc,ud,k1,k2,k3,k4,k5,k6,a0,l2,l3,l4,l5,l6,aF (i:=i) (by omega)]
theorem afX (fu:Nat)(f:20000<=fu):∀r n:Nat,C12 KW (n+2*r+1) fu r:=by
 intro r;induction r with
 | zero=>
  intro n m z A a h w u v x y;obtain⟨b,o,p⟩:=u;obtain⟨c,q,s⟩:=v;have D:a=[]:=by
   cases a with
   | nil=>rfl
   | cons e l=>cases e;simp [cu,zO] at x
  subst D;have i:=o.slice.len;have j:=q.slice.len;rw [I4.len p] at i;rw [I4.len s] at j;refine⟨m,?_,Ext.refl h⟩;obtain⟨fu,rfl⟩:∃k,fu=k+1:=⟨fu-1,by omega⟩;rw [enter (sf:=f12) rfl rfl];simp [f12,Ku,A8,dF h w,H6,i,j]
 | succ r ih=>intro n m z A a h w u v x y;obtain⟨b,o,p⟩:=u;obtain⟨c,q,s⟩:=v;have i:=o.slice.len;have j:=q.slice.len;rw [I4.len p] at i;rw [I4.len s] at j;have F:=iq a;have d:=ih (n+1);rw [show n+1+2*r+1=n+2*r+2 from by omega] at d;obtain⟨G,H,B,M',g,E⟩:=ac7 (n:=n+2*r+2) f (afW _ fu r f (by omega)) d h w a o p q s (by omega) y a.length 0 (by omega) .undef .undef .undef .undef m fu (Ext.refl h) (by omega);have C:K8 (λt m k=>Ku (r9 KW fu (n+2*r+2)) fu none t m k) fu (nV9 z A ff (iV 0) .undef .undef .undef .undef ff) m []=_:=g;refine⟨M',?_,E⟩;rw [show n+2*(r+1)+1=(n+2*r+2)+1 from by omega,enter (sf:=f12) rfl rfl];simp [f12,i,j,C]
theorem Zo (n fu r:Nat)(a:20000<=fu)(b:2*r+1<=n):C12 KW n fu r:=by
 have:=afX fu a r (n-(2*r+1))
 rwa [show n-(2*r+1)+2*r+1=n from by omega] at this
end
end Go.Proofs.YteecnooaopfkeaaGreatDoor.TT
