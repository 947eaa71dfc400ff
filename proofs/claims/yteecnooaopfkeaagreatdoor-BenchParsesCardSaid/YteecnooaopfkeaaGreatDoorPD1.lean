/- Lexing and parsing as plain laws; conditions: the memory holds what the arguments say. -/
import Derived.Test.YteecnooaopfkeaaGreatDoorPB4
import GoSem.Core.Utf8
import Derived.Lib.AtoiAll
set_option linter.all false
namespace Go.Proofs.YteecnooaopfkeaaGreatDoor.TT
open Go Go.AM
noncomputable section
abbrev By:=List UInt8
def oD (b:UInt8):Bool:=decide (97<=b.toNat)&&decide (b.toNat<=122)
def T9 (b:UInt8):Bool:=decide (48<=b.toNat)&&decide (b.toNat<=57)
def wz (b:UInt8):Bool:=oD b||T9 b
def K6 (p:UInt8->Bool):By->Nat
 | []=>0
 | b::s=>if p b then K6 p s+1 else 0
theorem dX (p:UInt8->Bool):∀s:By,K6 p s<=s.length
 | []=>J2 _
 | b::s=>by rw [K6];split;simpa using dX p s;simp
theorem pY (p:UInt8->Bool):∀(s:By) (i:Nat) (h:i<s.length),i<K6 p s->p s[i]=true
 | b::s,0,h,hi=>by rw [K6] at hi;split at hi;assumption;omega
 | b::s,i+1,h,hi=>by rw [K6] at hi;split at hi;exact pY p s i (by simpa using h) (by omega);omega
theorem qP (p:UInt8->Bool):∀(s:By) (h:K6 p s<s.length),p s[K6 p s]=false
 | b::s,h=>by
  by_cases hb:p b=true;have e:K6 p (b::s)=K6 p s+1:=by rw [K6,if_pos hb]
  have:=qP p s (by rw [e] at h;simpa using h);simp only [e,List.getElem_cons_succ];exact this;have e:K6 p (b::s)=0:=by rw [K6,if_neg hb]
  simp only [e,afG];simpa using hb
def oF (s:By):Nat:=s.foldl (λn b=>10*n+(b.toNat-48)) 0
def tq (s:By):Nat:=s.foldl (λn b=>min (10*n+(b.toNat-48)) 9007199254740993) 0
theorem Te (s:By)(b:UInt8):tq (s ++ [b])=min (10*tq s+(b.toNat-48)) 9007199254740993:=by simp [tq]
theorem Kr (s:By):tq s=min (oF s) 9007199254740993:=by
 have:∀(s:By) (a b:Nat),a=min b 9007199254740993->s.foldl (λn b=>min (10*n+(b.toNat-48)) 9007199254740993) a=min (s.foldl (λn b=>10*n+(b.toNat-48)) b) 9007199254740993:=by
  intro s;induction s with
  | nil=>intro a b h;simpa using h
  | cons c s ih=>intro a b h;rw [afS,afS];refine ih _ _ ?_;rw [h];omega
 exact this s 0 0 (by omega)
theorem YI (s:By):tq s<=9007199254740993:=by rw [Kr];omega
def qQ (s:By):Bool:=decide (s=[60,61])||decide (s=[62,61])||decide (s=[61,61])||decide (s=[33,61])
def ones:By:=[123,125,40,41,44,59,61,43,45,42,47,37,60,62]
def jE (s:By):Option (Nat×Nat):=match s with
 | []=>none
 | b :: _=>
  if oD b then (if K6 wz s<=16 then some (1,K6 wz s) else none)
  else if T9 b then (if (b=48∧1<K6 T9 s)∨9007199254740992<oF (s.take (K6 T9 s)) then none else some (2,K6 T9 s))
  else if qQ (s.take 2) then some (3,2)
  else if ones.contains b then some (3,1) else none
abbrev Tok:=Nat×By
def tu:Nat->Nat->By->Sum Nat (List Tok)
 | 0,_,_=>.inr []
 | _+1,_,[]=>.inr []
 | n+1,i,b::t=>
  if b=32∨b=10 then tu n (i+1) t
  else if b=35 then tu n (i+K6 (λc=>c != 10) (b::t)) ((b::t).drop (K6 (λc=>c != 10) (b::t)))
  else match jE (b::t) with
   | none=>.inl i
   | some (k,l)=>match tu n (i+l) ((b::t).drop l) with
    | .inl j=>.inl j
    | .inr ts=>.inr ((k,(b::t).take l)::ts)
theorem vB {s:By}{k l:Nat}(h:jE s=some (k,l)):1<=l∧l<=s.length∧1<=k∧k<=3∧∀i (hi:i<s.length),i<l->(s[i]).toNat<128:=by
 match s with
 | []=>cases h
 | b::t=>
  rw [jE] at h;by_cases h1:oD b=true;rw [if_pos h1] at h;split at h<;>cases h
  refine⟨?_,dX _ _,by omega,by omega,λi hi hl=>?_⟩;rw [K6,if_pos (by simp [wz,h1])];omega;have:=pY _ _ i hi hl;simp only [wz,oD,T9,afD,U9,decide_eq_true_eq] at this;omega;rw [if_neg h1] at h;by_cases h2:T9 b=true;rw [if_pos h2] at h;split at h<;>cases h
  refine⟨?_,dX _ _,by omega,by omega,λi hi hl=>?_⟩;rw [K6,if_pos h2];omega;have:=pY _ _ i hi hl;simp only [T9,U9,decide_eq_true_eq] at this;omega;rw [if_neg h2] at h;by_cases h3:qQ ((b::t).take 2)=true;rw [if_pos h3] at h;cases h;match t,h3 with
  | c::t,h3=>
   refine⟨by omega,by simp,by omega,by omega,λi hi hl=>?_⟩;simp only [qQ,ae2,afI,afD,decide_eq_true_eq,afn,and_true] at h3;match i,hl with
   | 0,_=>show b.toNat<128;rcases h3 with ((⟨rfl,_⟩ | ⟨rfl,_⟩) | ⟨rfl,_⟩) | ⟨rfl,_⟩<;>decide
   | 1,_=>show c.toNat<128;rcases h3 with ((⟨_,rfl⟩ | ⟨_,rfl⟩) | ⟨_,rfl⟩) | ⟨_,rfl⟩<;>decide
  | [],h3=>simp [qQ] at h3
  rw [if_neg h3] at h;by_cases h4:ones.contains b=true;rw [if_pos h4] at h;cases h;refine⟨by omega,by simp,by omega,by omega,λi hi hl=>?_⟩;obtain rfl:i=0:=by omega
  show b.toNat<128;simp only [ones,ais,Z7,afL,or_false,decide_eq_true_eq] at h4;rcases h4 with rfl | rfl | rfl | rfl | rfl | rfl | rfl | rfl | rfl | rfl | rfl | rfl | rfl | rfl<;>decide
  rw [if_neg h4] at h;cases h
theorem qR:∀(n i:Nat) (s:By) (m:Nat),s.length<=n->s.length<=m->tu n i s=tu m i s
 | 0,i,s,0,h,h'=>rfl
 | 0,i,s,m+1,h,h'=>by obtain rfl:=abZ.1 (Nat.le_zero.1 h);rfl
 | n+1,i,s,0,h,h'=>by obtain rfl:=abZ.1 (Nat.le_zero.1 h');rfl
 | n+1,i,[],m+1,h,h'=>rfl
 | n+1,i,b::t,m+1,h,h'=>by
  simp only [abW] at h h';rw [tu,tu];split;exact qR n _ t m (by omega) (by omega);split;rename_i hb;have hr:1<=K6 (λc=>c != 10) (b::t):=by rw [K6,if_pos (by rw [hb];decide)];omega
  exact qR n _ _ m (by simp;omega) (by simp;omega);cases ht:jE (b::t) with
  | none=>rfl
  | some p=>obtain⟨k,l⟩:=p;have:=(vB ht).1;simp only;rw [qR n (i+l) ((b::t).drop l) m (by simp;omega) (by simp;omega)]
def lV (i:Nat)(s:By):Sum Nat (List Tok):=tu s.length i s
theorem zG (i:Nat):lV i []=.inr []:=rfl
theorem Fb {i:Nat}{b:UInt8}{t:By}(h:b=32∨b=10):lV i (b::t)=lV (i+1) t:=by show tu (t.length+1) i (b::t)=_;rw [tu,if_pos h];rfl
theorem IE {i:Nat}{t:By}:lV i (35::t)=lV (i+K6 (λc=>c != 10) (35::t)) ((35::t).drop (K6 (λc=>c != 10) (35::t))):=by
 show tu (t.length+1) i (35::t)=_;rw [tu,if_neg (by decide),if_pos rfl];have hr:1<=K6 (λc=>c != 10) (35::t):=by rw [K6,if_pos (by decide)];omega
 exact qR _ _ _ _ (by simp;omega) (J2 _)
theorem Nv {i:Nat}{b:UInt8}{t:By}(h:¬(b=32∨b=10))(h1:b≠35)(ht:jE (b::t)=none):lV i (b::t)=.inl i:=by show tu (t.length+1) i (b::t)=_;rw [tu,if_neg h,if_neg h1,ht]
theorem Nw {i k l:Nat}{b:UInt8}{t:By}(h:¬(b=32∨b=10))(h1:b≠35)(ht:jE (b::t)=some (k,l)):lV i (b::t)=match lV (i+l) ((b::t).drop l) with
  | .inl j=>.inl j
  | .inr ts=>.inr ((k,(b::t).take l)::ts):=by
 show tu (t.length+1) i (b::t)=_;have:=(vB ht).1;rw [tu,if_neg h,if_neg h1,ht];simp only;rw [qR t.length (i+l) ((b::t).drop l) ((b::t).drop l).length (by simp;omega) (J2 _)];rfl
theorem IG (s:By)(i:Nat)(h:i<s.length):((s[i]).toNat<128∧Utf8.decode ⟨s.toArray⟩ i=((s[i]).toNat,1))∨
  (128<=(s[i]).toNat∧128<=(Utf8.decode ⟨s.toArray⟩ i).1∧(Utf8.decode ⟨s.toArray⟩ i).1<2147483648∧1<=(Utf8.decode ⟨s.toArray⟩ i).2∧i+(Utf8.decode ⟨s.toArray⟩ i).2<=s.length∧
   ∀j (hj:j<s.length),i<=j->j<i+(Utf8.decode ⟨s.toArray⟩ i).2->128<=(s[j]).toNat):=by
 have g:∀k (hk:i+k<s.length),(ByteArray.get! ⟨s.toArray⟩ (i+k)).toNat=(s[i+k]).toNat:=λk hk=>by show ((s.toArray)[i+k]!).toNat=_;rw [getElem!_pos s.toArray (i+k) (by simpa using hk)];simp
 have g0:=g 0 (by omega);simp only [aay] at g0;have c:∀k,(decide (i+k<ByteArray.size ⟨s.toArray⟩)&&(ByteArray.get! ⟨s.toArray⟩ (i+k)).toNat / 64==2)=true->∃hk:i+k<s.length,(s[i+k]).toNat / 64=2:=λk hk=>by
  simp only [U9,decide_eq_true_eq,beq_iff_eq] at hk;have h1:i+k<s.length:=by simpa [ByteArray.size] using hk.1
  exact⟨h1,by rw [← g k h1];exact hk.2⟩
 have b0:=UInt8.toNat_lt s[i];unfold Utf8.decode;simp only [aay,g0];by_cases h0:(s[i]).toNat<128;left;exact⟨h0,by rw [if_pos h0]⟩;right;rw [if_neg h0];have one:∀j (hj:j<s.length),i<=j->j<i+1->128<=(s[j]).toNat:=λj hj h1 h2=>by
  obtain rfl:j=i:=by omega
  omega
 have er:∀{p:Nat×Nat},p=(Utf8.runeError,1)->(128<=p.1∧p.1<2147483648∧1<=p.2∧i+p.2<=s.length∧∀j (hj:j<s.length),i<=j->j<i+p.2->128<=(s[j]).toNat):=λh=>by subst h;exact⟨by decide,by decide,by decide,by show i+1<=_;omega,one⟩
 refine⟨by omega,?_⟩;split;rename_i h1;rw [U9] at h1;obtain⟨k1,e1⟩:=c 1 h1.2;split;rename_i h2;refine⟨h2,?_,(by show 1<=2;omega),by show i+2<=_;omega,λj hj q1 q2=>?_⟩;show _ + _<2147483648;omega;have:j=i∨j=i+1:=by simp only at q2;omega
 rcases this with rfl | rfl;omega;omega;exact er rfl;split;rename_i h1;rw [U9,U9] at h1;obtain⟨k1,e1⟩:=c 1 h1.1.2;obtain⟨k2,e2⟩:=c 2 h1.2;split;rename_i h2;rw [U9,decide_eq_true_eq] at h2;refine⟨Xl (by decide) h2.1,?_,(by show 1<=3;omega),by show i+3<=_;omega,λj hj q1 q2=>?_⟩;show _ + _ + _<2147483648;omega;have:j=i∨j=i+1∨j=i+2:=by simp only at q2;omega
 rcases this with rfl | rfl | rfl<;>omega
 exact er rfl;split;rename_i h1;rw [U9,U9,U9] at h1;obtain⟨k1,e1⟩:=c 1 h1.1.1.2;obtain⟨k2,e2⟩:=c 2 h1.1.2;obtain⟨k3,e3⟩:=c 3 h1.2;split;rename_i h2;rw [U9,decide_eq_true_eq] at h2;refine⟨Xl (by decide) h2.1,?_,(by show 1<=4;omega),by show i+4<=_;omega,λj hj q1 q2=>?_⟩;show _ + _ + _ + _<2147483648;omega;have:j=i∨j=i+1∨j=i+2∨j=i+3:=by simp only at q2;omega
 rcases this with rfl | rfl | rfl | rfl<;>omega
 exact er rfl;exact er rfl
def Ku (a:Nat)(s:By):Nat:=s.foldl (λn b=>10*n+(b.toNat-48)) a
theorem QM:∀(s:By) (a:Nat),a<=Ku a s
 | [],a=>J2 _
 | b::s,a=>by have:=QM s (10*a+(b.toNat-48));show a<=Ku (10*a+(b.toNat-48)) s;omega
theorem II:∀(s:By) (a:Nat),(∀b∈s,T9 b=true)->a<18446744073709551616->
  (Ku a s<18446744073709551616∧Lib.parseUint10 a s=.ok (Ku a s))∨(18446744073709551616<=Ku a s∧Lib.parseUint10 a s=.range)
 | [],a,_,h=>.inl ⟨h,rfl⟩
 | b::s,a,hd,h=>by have hb:=hd b (by simp);simp only [T9,U9,decide_eq_true_eq] at hb;have e:Ku a (b::s)=Ku (10*a+(b.toNat-48)) s:=rfl;have hge:=QM s (10*a+(b.toNat-48));rw [Lib.parseUint10,if_pos ⟨hb.1,hb.2⟩,e];by_cases h1:1844674407370955162<=a;rw [if_pos h1];right;exact⟨by omega,rfl⟩;rw [if_neg h1];by_cases h2:18446744073709551616<=a*10+(b.toNat-48);rw [if_pos h2];right;exact⟨by omega,rfl⟩;rw [if_neg h2,ae4 a 10];exact II s _ (λc hc=>hd c (by simp [hc])) (by omega)
theorem Fe (s:By)(hne:s≠[])(hd:∀b∈s,T9 b=true):
  (oF s<9223372036854775808∧Lib.atoiAll s=.ok (oF s:Int))∨(9223372036854775808<=oF s∧Lib.atoiAll s=.range):=by
 match s,hne with
 | c::r,_=>
  have hc:=hd c (by simp);simp only [T9,U9,decide_eq_true_eq] at hc;have h43:¬(c.toNat=43∨c.toNat=45):=by omega
  have h45:¬c.toNat=45:=by omega
  have e:oF (c::r)=Ku 0 (c::r):=rfl;rw [Lib.atoiAll];simp only [if_neg h43];rw [Lib.parseMag,if_neg (by simp),e];rcases II (c::r) 0 hd (by omega) with⟨h1,h2⟩ | ⟨h1,h2⟩;rw [h2];simp only [h45,not_false_eq_true,true_and,false_and,if_false];by_cases h3:9223372036854775808<=Ku 0 (c::r);rw [if_pos h3];exact .inr ⟨h3,rfl⟩;rw [if_neg h3];exact .inl ⟨by omega,rfl⟩;rw [h2];exact .inr ⟨by omega,rfl⟩
theorem Kv (p:UInt8->Bool)(s:By):∀b∈s.take (K6 p s),p b=true:=by
 intro b hb;obtain⟨i,hi,rfl⟩:=List.getElem_of_mem hb;have h1:i<K6 p s:=by have:=dX p s;simp at hi;omega
 rw [aiJ];exact pY p s i (by have:=dX p s;omega) h1
open Go Go.AM
abbrev nS:j3:=.nilSlice
abbrev iV (a:Int):j3:=.int .i64 a
abbrev r4 (a b:Int)(c:List UInt8)(d:j3):List j3:=[.int .i64 a,.int .i64 b,.str c,d]
abbrev r5 (a:Int)(b:List UInt8)(c d e:j3):List j3:=[.int .i64 a,.str b,c,d,e]
abbrev r6 (a b:Int)(c:List UInt8)(d:j3)(e:Int)(f:Bool):List j3:=[.int .i64 a,.int .i64 b,.str c,d,.int .i64 e,.bool f]
abbrev r7 (a:Int)(b:List UInt8)(c d e:j3)(f:Int)(g:Bool):List j3:=[.int .i64 a,.str b,c,d,e,.int .i64 f,.bool g]
abbrev r3 (a:j3)(b:Int)(c:Bool):List j3:=[a,.int .i64 b,.bool c]
attribute [simp] nS iV r3 r4 r5 r6 r7 lN bW tH abz Yi Vp JO Sw jT jS
attribute [simp] I J S U Z A V tt ff kD Po zae QF zay zaX zbj zcE Cx
abbrev Tf (a0 a1 a2 a3:j3):T j3:=(.nd (.nd (.nd .e a3 .e) a1 .e) a0 (.nd .e a2 .e))
abbrev nV5 (a0 a1 a2 a3 a4:j3):T j3:=(.nd (.nd (.nd .e a3 .e) a1 .e) a0 (.nd (.nd .e a4 .e) a2 .e))
abbrev Xh (a0 a1 a2 a3 a4 a5:j3):T j3:=(.nd (.nd (.nd .e a3 .e) a1 (.nd .e a5 .e)) a0 (.nd (.nd .e a4 .e) a2 .e))
abbrev TV (a0 a1 a2 a3 a4 a5 a6:j3):T j3:=(.nd (.nd (.nd .e a3 .e) a1 (.nd .e a5 .e)) a0 (.nd (.nd .e a4 .e) a2 (.nd .e a6 .e)))
abbrev YJ (a0 a1 a2 a3 a4 a5 a6 a7:j3):T j3:=(.nd (.nd (.nd (.nd .e a7 .e) a3 .e) a1 (.nd .e a5 .e)) a0 (.nd (.nd .e a4 .e) a2 (.nd .e a6 .e)))
abbrev KM (a0 a1 a2 a3 a4 a5 a6 a7 a8:j3):T j3:=(.nd (.nd (.nd (.nd .e a7 .e) a3 .e) a1 (.nd .e a5 .e)) a0 (.nd (.nd (.nd .e a8 .e) a4 .e) a2 (.nd .e a6 .e)))
abbrev xW (a0 a1 a2 a3 a4 a5 a6 a7 a8 a9 a10:j3):T j3:=(.nd (.nd (.nd (.nd .e a7 .e) a3 .e) a1 (.nd (.nd .e a9 .e) a5 .e)) a0 (.nd (.nd (.nd .e a8 .e) a4 .e) a2 (.nd (.nd .e a10 .e) a6 .e)))
abbrev xX (a0 a1 a2 a3 a4 a5 a6 a7 a8 a9 a10 a11:j3):T j3:=(.nd (.nd (.nd (.nd .e a7 .e) a3 (.nd .e a11 .e)) a1 (.nd (.nd .e a9 .e) a5 .e)) a0 (.nd (.nd (.nd .e a8 .e) a4 .e) a2 (.nd (.nd .e a10 .e) a6 .e)))
abbrev Fg (a0 a1 a2 a3 a4 a5 a6 a7 a8 a9 a10 a11 a12:j3):T j3:=(.nd (.nd (.nd (.nd .e a7 .e) a3 (.nd .e a11 .e)) a1 (.nd (.nd .e a9 .e) a5 .e)) a0 (.nd (.nd (.nd .e a8 .e) a4 (.nd .e a12 .e)) a2 (.nd (.nd .e a10 .e) a6 .e)))
abbrev VO (a0 a1 a2 a3 a4 a5 a6 a7 a8 a9 a10 a11 a12 a13 a14:j3):T j3:=(.nd (.nd (.nd (.nd .e a7 .e) a3 (.nd .e a11 .e)) a1 (.nd (.nd .e a9 .e) a5 (.nd .e a13 .e))) a0 (.nd (.nd (.nd .e a8 .e) a4 (.nd .e a12 .e)) a2 (.nd (.nd .e a10 .e) a6 (.nd .e a14 .e))))
abbrev vC (a0 a1 a2 a3 a4 a5 a6 a7 a8 a9 a10 a11 a12 a13 a14 a15:j3):T j3:=(.nd (.nd (.nd (.nd (.nd .e a15 .e) a7 .e) a3 (.nd .e a11 .e)) a1 (.nd (.nd .e a9 .e) a5 (.nd .e a13 .e))) a0 (.nd (.nd (.nd .e a8 .e) a4 (.nd .e a12 .e)) a2 (.nd (.nd .e a10 .e) a6 (.nd .e a14 .e))))
abbrev Tg (a0 a1 a2 a3 a4 a5 a6 a7 a8 a9 a10 a11 a12 a13 a14 a15 a16:j3):T j3:=(.nd (.nd (.nd (.nd (.nd .e a15 .e) a7 .e) a3 (.nd .e a11 .e)) a1 (.nd (.nd .e a9 .e) a5 (.nd .e a13 .e))) a0 (.nd (.nd (.nd (.nd .e a16 .e) a8 .e) a4 (.nd .e a12 .e)) a2 (.nd (.nd .e a10 .e) a6 (.nd .e a14 .e))))
attribute [simp] Tf nV5 Xh TV YJ KM xW xX Fg VO vC Tg
theorem sB {m:Mem}{id:Nat}(h:m.lim<=id)(Q:Type)(off:Nat)(vs:List j3)(k:Mem->Option Q):storeAt m id off vs k=bi (O0 vs) (ob (FD (m.get id) off vs) λb=>k (m.set id b)) none:=rY h off vs k
theorem Ch {m:Mem}{rs:Nat}{v:j3}{l:List (List j3)}(h:V7 m rs v l)(Q:Type)(p:j3->Q)(q:Q):dx v p q=q:=h.mZ p q
def QN (f:Nat):Bool:=Nat.beq f 7||(Nat.beq f 48||Nat.beq f 50)
def amL (f:FuncId):Option aT:=(fns f).map λsf=>{sf with pure:=QN f}
def zH (s:List UInt8):AZ:=match Lib.atoiAll s with
 | .ok v=>⟨.tuple [.int .i64 v,.nilIface],[]⟩
 | .range=>⟨.tuple [.int .i64 (Lib.atoiSat s),.iface 249 (.ptr base.nx 0)],[.dead]⟩
 | _=>⟨.tuple [.int .i64 0,.iface 249 (.ptr base.nx 0)],[.dead]⟩
def YK (f:FuncId)(args:List j3)(bs:List NB):Option AZ:=match bs with
 | []=>match args with
  | [.str s]=>if s.length<1000000 then (if f=48 then some (zH s) else none) else none
  | [.str s,.str [c]]=>if f=50 then some ⟨.bool (JY c s),[]⟩ else none
  | _=>none
 | _=>none
def Kw (f:FuncId)(args:List j3)(bs:List NB):Option AZ:=if f=7 then sumOf [⟨7,[],[],.bool true,[]⟩] f args bs else YK f args bs
def amM (f:FuncId)(args:List j3)(m:Mem):bX:=bi (Nat.beq f 97) (bB args m) none
def KW:Known:=⟨amL,base,Kw,amM⟩
theorem enter {n fu:Nat}{f:FuncId}{sf:aT}{vs:List j3}{m:Mem}(h:fns f=some sf)(hf:QN f=false)(he:Nat.beq f 97=false:=by rfl):
  o9 KW fu (n+1) (.func f) vs m=lN (o9 KW fu n) (pq KW (o9 KW fu n) fu) fu sf vs m:=by
 rw [dI];have h:KW.fns f=some {sf with pure:=false}:=by show (fns f).map _=_;rw [h,hf];rfl
 have he':KW.eff f vs m=none:=by show bi (Nat.beq f 97) _ none=none;rw [he];rfl
 simp only [h,he',P5,S9];rfl
theorem Pt {n fu:Nat}{f:FuncId}{sf:aT}{vs:List j3}{m:Mem}(h:fns f=some sf)(hf:QN f=true)(he:Nat.beq f 97=false:=by rfl):
  o9 KW fu (n+1) (.func f) vs m=iL KW (o9 KW fu n) fu f {sf with pure:=true} vs m:=by
 rw [dI];have h:KW.fns f=some {sf with pure:=true}:=by show (fns f).map _=_;rw [h,hf];rfl
 have he':KW.eff f vs m=none:=by show bi (Nat.beq f 97) _ none=none;rw [he];rfl
 simp only [h,he',P5];rfl
theorem BN {lo:Nat}{l:List j3}(m:Mem)(h1:tX lo l=[])(h2:∀r,kH r l=some l):iX lo l m=some ⟨[],l,[]⟩:=by show ob (reach m lo (99999+1) (tX lo l) []) _=_;rw [h1,ES];show ob (kH (xk lo []) l) (λxs=>ob (some []) λbs=>some (⟨[],xs,bs⟩:CO))=_;rw [h2];rfl
theorem AP (n fu:Nat)(m:Mem):o9 KW fu (n+1) (.func 7) [] m=some [⟨.bool true,m⟩]:=by
 obtain⟨sf,hsf⟩:∃sf,fns 7=some sf:=⟨_,rfl⟩;rw [Pt (sf:=sf) hsf rfl,Ki (K:=KW) (c:=⟨[],[],[]⟩) (a:=⟨.bool true,[]⟩) (BN m rfl λ_=>rfl)
  (by show Kw 7 [] []=_;rw [Kw,if_pos rfl];rfl)]
 rfl
theorem Ny (s:List UInt8)(c:UInt8)(n fu:Nat)(m:Mem):o9 KW fu (n+1) (.func 50) [.str s,.str [c]] m=some [⟨.bool (JY c s),m⟩]:=by
 obtain⟨sf,hsf⟩:∃sf,fns 50=some sf:=⟨_,rfl⟩;rw [Pt (sf:=sf) hsf rfl,Ki (K:=KW) (c:=⟨[],[.str s,.str [c]],[]⟩) (a:=⟨.bool (JY c s),[]⟩) (BN m rfl λ_=>rfl)
  (by show Kw 50 [.str s,.str [c]] []=_;rw [Kw,if_neg (by decide)];simp [YK])]
 rfl
theorem QO (s:List UInt8)(hs:s.length<1000000)(n fu:Nat)(m:Mem)(hm:m.Ok):∃v e m',o9 KW fu (n+1) (.func 48) [.str s] m=some [⟨.tuple [.int .i64 v,e],m'⟩]∧Ext m m'∧
  ((Lib.atoiAll s=.ok v∧e=.nilIface)∨((∀x,Lib.atoiAll s≠.ok x)∧∃p,e=.iface 249 (.ptr p 0))):=by
 obtain⟨sf,hsf⟩:∃sf,fns 48=some sf:=⟨_,rfl⟩;have key:o9 KW fu (n+1) (.func 48) [.str s] m=ob (eB (fU base.nx [] m.nx) (zH s).v) λv=>ob (sJ (fU base.nx [] m.nx) (zH s).bs) λbs=>one v (layAll bs m):=by
  rw [Pt (sf:=sf) hsf rfl,Ki (K:=KW) (c:=⟨[],[.str s],[]⟩) (a:=zH s) (ET m rfl λ_=>rfl)
   (by show Kw 48 [.str s] []=_;rw [Kw,if_neg (by decide)];show (if s.length<1000000 then _ else _)=_;rw [if_pos hs,if_pos rfl])]
  rfl
 have bad:∀k:Int,ob (eB (fU base.nx [] m.nx) (.tuple [.int .i64 k,.iface 249 (.ptr base.nx 0)])) (λv=>ob (sJ (fU base.nx [] m.nx) [.dead]) λbs=>one v (layAll bs m))=some [⟨.tuple [.int .i64 k,.iface 249 (.ptr m.nx 0)],m.new .dead⟩]:=λk=>by show ob (ob (ob (some (j3.int .i64 k)) λx=>ob (ob (ob (ob (fU base.nx [] m.nx base.nx) λj=>some (j3.ptr j 0)) λx=>some (j3.iface 249 x)) λx=>ob (some []) λy=>some (x::y)) λy=>some (x::y)) λx=>some (j3.tuple x)) (λv=>ob (some [NB.dead]) λbs=>one v (layAll bs m))=_;rw [Pm];rfl
 cases h:Lib.atoiAll s with
 | ok v=>refine⟨v,.nilIface,m,?_,Ext.refl hm,.inl ⟨rfl,rfl⟩⟩;rw [key];simp only [zH,h];rfl
 | range=>refine⟨Lib.atoiSat s,.iface 249 (.ptr m.nx 0),m.new .dead,?_,(Ext.refl hm).new _,.inr ⟨(λx (hx:Lib.NumEnd.range=.ok x)=>by cases hx),m.nx,rfl⟩⟩;rw [key];simp only [zH,h];exact bad _
 | _=>refine⟨0,.iface 249 (.ptr m.nx 0),m.new .dead,?_,(Ext.refl hm).new _,.inr ⟨(by intro x hx;cases hx),m.nx,rfl⟩⟩;rw [key];simp only [zH,h];exact bad 0
set_option maxRecDepth 100000
set_option maxHeartbeats 4000000
theorem Pv (b:UInt8)(n fu:Nat)(m:Mem):o9 KW fu (n+1) (.func 45) [.int .u8 (b.toNat:Nat)] m=some [⟨.bool (oD b),m⟩]:=by
 rw [enter (sf:=f45) rfl rfl];have e1:decide ((97:Int)<=((b.toNat:Nat):Int))=decide (97<=b.toNat):=by rw [aas];simp only [decide_eq_true_eq];omega
 have e2:decide (((b.toNat:Nat):Int)<=(122:Int))=decide (b.toNat<=122):=by rw [aas];simp only [decide_eq_true_eq];omega
 by_cases h:97<=b.toNat<;>simp [f45,oD,e1,e2,h]
theorem Pw (b:UInt8)(n fu:Nat)(m:Mem):o9 KW fu (n+1) (.func 47) [.int .u8 (b.toNat:Nat)] m=some [⟨.bool (T9 b),m⟩]:=by
 rw [enter (sf:=f47) rfl rfl];have e1:decide ((48:Int)<=((b.toNat:Nat):Int))=decide (48<=b.toNat):=by rw [aas];simp only [decide_eq_true_eq];omega
 have e2:decide (((b.toNat:Nat):Int)<=(57:Int))=decide (b.toNat<=57):=by rw [aas];simp only [decide_eq_true_eq];omega
 by_cases h:48<=b.toNat<;>simp [f47,T9,e1,e2,h]
theorem Px (b:UInt8)(n fu:Nat)(m:Mem):o9 KW fu (n+1) (.func 51) [.int .u8 (b.toNat:Nat)] m=some [⟨.bool (oD b),m⟩]:=by
 rw [enter (sf:=f51) rfl rfl];have e1:decide ((97:Int)<=((b.toNat:Nat):Int))=decide (97<=b.toNat):=by rw [aas];simp only [decide_eq_true_eq];omega
 have e2:decide (((b.toNat:Nat):Int)<=(122:Int))=decide (b.toNat<=122):=by rw [aas];simp only [decide_eq_true_eq];omega
 by_cases h:97<=b.toNat<;>simp [f51,oD,e1,e2,h]
theorem Fh (b:UInt8)(n fu:Nat)(m:Mem):o9 KW fu (n+1) (.func 52) [.int .u8 (b.toNat:Nat)] m=some [⟨.bool (T9 b),m⟩]:=by
 rw [enter (sf:=f52) rfl rfl];have e1:decide ((48:Int)<=((b.toNat:Nat):Int))=decide (48<=b.toNat):=by rw [aas];simp only [decide_eq_true_eq];omega
 have e2:decide (((b.toNat:Nat):Int)<=(57:Int))=decide (b.toNat<=57):=by rw [aas];simp only [decide_eq_true_eq];omega
 by_cases h:48<=b.toNat<;>simp [f52,T9,e1,e2,h]
theorem acf (b:UInt8)(n fu:Nat)(m:Mem):o9 KW fu (n+2) (.func 46) [.int .u8 (b.toNat:Nat)] m=some [⟨.bool (wz b),m⟩]:=by rw [enter (sf:=f46) rfl rfl];have e1:=Pv b n fu m;have e2:=Pw b n fu m;cases h:oD b<;>rw [h] at e1<;>simp [f46,wz,e1,e2,h]
theorem acg (b:UInt8)(n fu:Nat)(m:Mem):o9 KW fu (n+1) (.func 25) [.int .u8 (b.toNat:Nat)] m=some [⟨.bool (b != 10),m⟩]:=by
 rw [enter (sf:=f25) rfl rfl];have e:(!decide (((b.toNat:Nat):Int)=10))=(b != 10):=by rw [aas];simp only [aiH,decide_eq_false_iff_not,bne_iff_ne,ne_eq];exact not_congr ⟨λh=>adE.1 (by simp;omega),λh=>by rw [h];rfl⟩
 simp [f25,e]
theorem YL {m:Mem}{g:FuncId}{p:UInt8->Bool}{n fu:Nat}(s:By)(hs:s.length<=100000)(hg:∀b,o9 KW fu n (.func g) [.int .u8 (b.toNat:Nat)] m=some [⟨.bool (p b),m⟩]):
  ∀(j i:Nat),i+j=K6 p s->∀(c:j3) (N:Nat),j+1<=N->
  ∃c',I4 (λenv m k=>Io (o9 KW fu n) fu none env m k) N (nV5 (iV (i:Int)) (.str s) (.func (.func g) [] []) c (iV 0)) m []=some [⟨.exit 0,(nV5 (iV (K6 p s:Int)) (.str s) (.func (.func g) [] []) c' (iV 0)),m,[],none⟩]:=by
 have hle:=dX p s;intro j;induction j with
 | zero=>
  intro i hi c N hN;obtain⟨N,rfl⟩:∃k,N=k+1:=⟨N-1,by omega⟩;obtain rfl:i=K6 p s:=by omega
  refine⟨.bool false,?_⟩;rw [w9];by_cases hl:K6 p s<s.length;have q:=λx lo ls env hx hl'=>fH (x:=x) (lo:=lo) (ls:=ls) (env:=env) (s:=s) (l:=K6 p s) hx hl' hl;have e1:decide ((K6 p s:Int)<(s.length:Int))=true:=decide_eq_true (by omega);have hb:=hg s[K6 p s];rw [qP p s hl] at hb;simp [Io,e1,hl,q,hb];have e1:decide ((K6 p s:Int)<(s.length:Int))=false:=decide_eq_false (by omega);simp [Io,e1,hl]
 | succ j ih=>
  intro i hi c N hN;obtain⟨N,rfl⟩:∃k,N=k+1:=⟨N-1,by omega⟩;have hl:i<s.length:=by omega
  have q:=λx lo ls env hx hl'=>fH (x:=x) (lo:=lo) (ls:=ls) (env:=env) (s:=s) (l:=i) hx hl' hl;have e1:decide ((i:Int)<(s.length:Int))=true:=decide_eq_true (by omega);have hb:=hg s[i];rw [pY p s i hl (by omega)] at hb;obtain⟨c',gg⟩:=ih (i+1) (by omega) (.bool true) N (by omega);refine⟨c',?_⟩;rw [w9,← gg];simp [Io,e1,hl,q,hb,Y9 (i:=i) (by omega)]
theorem Py {m:Mem}{g:FuncId}{p:UInt8->Bool}{n fu:Nat}(s:By)(hs:s.length<=100000)(hg:∀b,o9 KW fu n (.func g) [.int .u8 (b.toNat:Nat)] m=some [⟨.bool (p b),m⟩])(hfu:s.length+1<=fu):
  o9 KW fu (n+1) (.func 24) [.str s,.func (.func g) [] []] m=some [⟨iV (K6 p s:Int),m⟩]:=by
 have hle:=dX p s;obtain⟨c',gg⟩:=YL (m:=m) (n:=n) (fu:=fu) s hs hg (K6 p s) 0 (by omega) .undef fu (by omega);have g':I4 (λenv m k=>Io (o9 KW fu n) fu none env m k) fu (nV5 (iV 0) (.str s) (.func (.func g) [] []) .undef (iV 0)) m []=_:=gg;rw [enter (sf:=f24) rfl rfl];simp [f24,g']
theorem ach (s t:By)(n fu:Nat)(m:Mem):o9 KW fu (n+1) (.func 93) [.str s,.str t] m=some [⟨.bool (decide (s.take t.length=t)),m⟩]:=by
 rw [enter (sf:=f93) rfl rfl];by_cases h:t.length<=s.length;have q:=λx hi ls env hx hh=>zC (x:=x) (hi:=hi) (ls:=ls) (env:=env) (s:=s) (h:=t.length) hx hh h;have e1:decide ((t.length:Int)<=(s.length:Int))=true:=decide_eq_true (by omega);simp [f93,e1,h,q];have e1:decide ((t.length:Int)<=(s.length:Int))=false:=decide_eq_false (by omega);have e2:¬ s.take t.length=t:=λe=>by have:=congrArg List.length e;simp at this;omega
 simp [f93,e1,h,e2]
theorem aci (s t:By)(n fu:Nat)(m:Mem):o9 KW fu (n+2) (.func 49) [.str s,.str t] m=some [⟨.bool (decide (s.take t.length=t)),m⟩]:=by rw [enter (sf:=f49) rfl rfl];simp [f49,ach]
def wB:List By:=[[60,61],[62,61],[61,61],[33,61]]
theorem vD {m:Mem}(hm:m.Ok)(l:List j3):gJ (m.new (.cells 1 l.length (T.ofList (l.map ([·]))))) (.slice m.nx 0 l.length l.length) l:=
 .inr ⟨m.nx,0,.inl ⟨_,rfl,J2 _⟩,by simp,.inr ⟨l.length,T.ofList (l.map ([·])),by rw [Mem.N7 hm,if_pos rfl],by simp,λi hi=>by rw [aav,T.aG];simp [hi]⟩⟩
theorem YM {M:Mem}{p n fu:Nat}{v:j3}(s:By)(hM:M.get p=some (j4 [iV 0,.str []]))(hl:M.lim<=p)(hv:gJ M v (strs wB)):
  ∀(j i:Nat),i+j=4->∀(c x y:j3) (N:Nat),j+1<=N->
  ∃c' x' y' i',I4 (λenv m k=>Ip (o9 KW fu (n+2)) fu none env m k) N (VO (.str s) (.bool false) .undef (.ptr p 0) (.bool false) .undef .undef .undef (iV (i:Int)) (iV 4) c v x y (.bool false)) M [] =
   bi ((wB.drop i).any λt=>decide (s.take 2=t)) (some [⟨.ret,(VO (.str s) (.bool false) .undef (.ptr p 0) (.bool false) .undef .undef .undef (iV (i':Int)) (iV 4) c' v x' y' (.bool true)),M.set p (j4 [iV 3,.str (s.take 2)]),[],none⟩])
    (some [⟨.exit 1,(VO (.str s) (.bool false) .undef (.ptr p 0) (.bool false) .undef .undef .undef (iV (i':Int)) (iV 4) c' v x' y' (.bool false)),M,[],none⟩]):=by
 have hlen:wB.length=4:=rfl;have st:=sB hl;intro j;induction j with
 | zero=>
  intro i hi c x y N hN;obtain⟨N,rfl⟩:∃k,N=k+1:=⟨N-1,by omega⟩;obtain rfl:i=4:=by omega
  refine⟨.bool false,x,y,4,?_⟩;rw [w9];simp [Ip,wB]
 | succ j ih=>
  intro i hi c x y N hN;obtain⟨N,rfl⟩:∃k,N=k+1:=⟨N-1,by omega⟩;have hi4:i<wB.length:=by rw [hlen];omega
  have e1:decide ((i:Int)<(4:Int))=true:=decide_eq_true (by omega);have e1':i<4:=by omega
  obtain⟨id,off,g1,g2,g3⟩:=hv.at (i:=i) (by rw [eH];omega);have e3:(strs wB)[i]'(by rw [eH];exact hi4)=.str wB[i]:=aip ..;rw [e3] at g3;have g1':jV v none (λid off len _=>idx len (iV (i:Int)) λk=>some (j3.ptr id (off+k*1))) (λid off len _=>idx len (iV (i:Int)) λk=>some (j3.ptr id (off+k*1)))=some (.ptr id off):=by simpa using g1
  have hp:=aci s wB[i] n fu M;have h2:(wB[i]).length=2:=(by decide:∀t∈wB,t.length=2) _ (abX hi4);rw [h2] at hp;have hd:wB.drop i=wB[i]::wB.drop (i+1):=Y6 hi4;by_cases ht:s.take 2=wB[i];rw [decide_eq_true ht] at hp;refine⟨.bool true,.str wB[i],.bool true,i,?_⟩;rw [w9,hd];simp [Ip,e1,e1',g1,g3,hp,ht,st,hM,K5];rw [decide_eq_false ht] at hp;obtain⟨c',x',y',i',gg⟩:=ih (i+1) (by omega) (.bool true) (.str wB[i]) (.bool false) N (by omega);refine⟨c',x',y',i',?_⟩;rw [w9,hd,aj1,decide_eq_false ht,aiG,← gg];simp [Ip,e1,e1',g1,g3,hp,Y9 (i:=i) (by omega)]
set_option maxHeartbeats 8000000
theorem bs4 (ls:List j3)(env:T j3)(nid:Nat):F8 1 4 [.str []] [(0,1,D8 (.str [60,61])),(1,1,D8 (.str [62,61])),(2,1,D8 (.str [61,61])),(3,1,D8 (.str [33,61]))] ls env nid=some (.slice nid 0 4 4,some (.cells 1 4 (T.ofList ((strs wB).map ([·]))))):=rfl
@[simp] theorem amN:fZ .nilIface .nilIface=some true:=_root_.id rfl
@[simp] theorem amO (t:TypeId)(v:j3):fZ (.iface t v) .nilIface=some false:=_root_.id rfl
theorem QS (s:By):(wB.any λt=>decide (s=t))=qQ s:=by simp [wB,qQ,Bool.or_assoc]
theorem Ti (b:UInt8):JY b ones=ones.contains b:=by
 have:∀l:By,JY b l=l.contains b:=by
  intro l;induction l with
  | nil=>rfl
  | cons c l ih=>show bi (Nat.beq c.toNat b.toNat) true (JY b l)=_;rw [eG,ih,aiD];by_cases h:b=c;subst h;simp;rw [if_neg (λe=>h (adE.1 e.symm))];simp [h]
 exact this ones
theorem acj {m:Mem}(hm:m.Ok)(hl:m.lim<=m.nx)(b:UInt8)(t:By)(hs:(b::t).length<=100000)(n fu:Nat)(hfu:(b::t).length+10<=fu):
  ∃(k:Int) (tx:By) (ok:Bool) (m':Mem),o9 KW fu (n+4) (.func 26) [.str (b::t)] m=some [⟨.tuple [.agg [iV k,.str tx],.bool ok],m'⟩]∧Ext m m'∧
   match jE (b::t) with
   | none=>ok=false
   | some p=>ok=true∧k=(p.1:Int)∧tx=(b::t).take p.2:=by
 have q0:=λx lo ls env hx hl'=>Kg (x:=x) (lo:=lo) (ls:=ls) (env:=env) (b:=b) (t:=t) hx hl';have c45:=Pv b (n+2) fu (ext m [j4 [iV 0,.str []]]);have c47:=Pw b (n+2) fu (ext m [j4 [iV 0,.str []]]);by_cases h1:oD b=true;rw [h1] at c45;have hr:=Py (m:=ext m [j4 [iV 0,.str []]]) (g:=46) (p:=wz) (n:=n+2) (fu:=fu) (b::t) hs (λc=>acf c n fu _) (by omega);have q1:=λx hi ls env hx hh=>zC (x:=x) (hi:=hi) (ls:=ls) (env:=env) (s:=b::t) (h:=K6 wz (b::t)) hx hh (dX _ _);refine⟨1,(b::t).take (K6 wz (b::t)),decide ((K6 wz (b::t):Int)<=16),ext m [j4 [iV 1,.str ((b::t).take (K6 wz (b::t)))]],?_,y9 hm _,?_⟩;rw [enter (sf:=f26) rfl rfl];simp [f26,p9,u7,z8 hm,G7 hm,O4 hm hl,H6 hm hl,K3 hm,H7 hm,K5,q0,c45,hr,q1];rw [jE,if_pos h1];by_cases h:K6 wz (b::t)<=16;rw [if_pos h];exact⟨decide_eq_true (by omega),rfl,rfl⟩;rw [if_neg h];exact decide_eq_false (by omega);have h1':oD b=false:=by simpa using h1
 rw [h1'] at c45;by_cases h2:T9 b=true;rw [h2] at c47;have hr:=Py (m:=ext m [j4 [iV 0,.str []]]) (g:=47) (p:=T9) (n:=n+2) (fu:=fu) (b::t) hs (λc=>Pw c (n+1) fu _) (by omega);have hle:=dX T9 (b::t);have q1:=λx hi ls env hx hh=>zC (x:=x) (hi:=hi) (ls:=ls) (env:=env) (s:=b::t) (h:=K6 T9 (b::t)) hx hh hle;obtain⟨v,e,m2,ga,E2,hv⟩:=QO ((b::t).take (K6 T9 (b::t))) (by simp at hs ⊢;omega) (n+2) fu (ext m [j4 [iV 0,.str []]]) (oo hm _);have hg2:m2.get m.nx=some (j4 [iV 0,.str []]):=by rw [E2.old m.nx (by simp),z8 hm];rfl
 have hn2:m.nx<m2.nx:=Xb (by simp) E2.nx;have hl2:m2.lim<=m.nx:=by rw [E2.lim];simpa using hl
 have st:=sB hl2;have gs:∀B,(m2.set m.nx B).get m.nx=some B:=λB=>y8 E2.ok _ hn2 rfl;have E3:∀B,Ext m (m2.set m.nx B):=λB=>((y9 hm _).trans E2).set hn2 (J2 _) B;have hd:=Kv T9 (b::t);have hr1:1<=K6 T9 (b::t):=by rw [K6,if_pos h2];omega
 have hrne:(b::t).take (K6 T9 (b::t))≠[]:=by intro e;have:=congrArg List.length e;simp at this;omega
 have h48:decide (((b.toNat:Nat):Int)=48)=decide (b=48):=by rw [aas];simp only [decide_eq_true_eq];exact⟨λh=>adE.1 (by simp;omega),λh=>by rw [h];rfl⟩
 have hn1:decide ((K6 T9 (b::t):Int)=1)=decide (K6 T9 (b::t)=1):=by rw [aas];simp only [decide_eq_true_eq];omega
 rcases hv with⟨hok,rfl⟩ | ⟨hno,p,rfl⟩;have hval:oF ((b::t).take (K6 T9 (b::t)))<9223372036854775808∧v=(oF ((b::t).take (K6 T9 (b::t))):Int):=by rcases Fe _ hrne hd with⟨a1,a2⟩ | ⟨a1,a2⟩;rw [a2] at hok;injection hok with hok;exact⟨a1,hok.symm⟩;rw [a2] at hok;cases hok
 by_cases h3:v<=9007199254740992;refine⟨2,(b::t).take (K6 T9 (b::t)),(!decide (b=48))||decide (K6 T9 (b::t)=1),m2.set m.nx (j4 [iV 2,.str ((b::t).take (K6 T9 (b::t)))]),?_,E3 _,?_⟩;rw [enter (sf:=f26) rfl rfl];have e3:decide (v<=9007199254740992)=true:=decide_eq_true h3;cases h4:decide (b=48)<;>rw [h4] at h48<;>simp only [decide_eq_true_eq,decide_eq_false_iff_not] at h48
 simp [f26,p9,u7,z8 hm,G7 hm,O4 hm hl,H6 hm hl,K3 hm,H7 hm,K5,q0,c45,c47,hr,q1,ga,st,hg2,e3,h3,h48,hn1,gs];rw [h48] at c45 c47;simp [f26,p9,u7,z8 hm,G7 hm,O4 hm hl,H6 hm hl,K3 hm,H7 hm,K5,q0,c45,c47,hr,q1,ga,st,hg2,e3,h3,h48,hn1,gs];rw [jE,if_neg h1,if_pos h2];by_cases h4:b=48∧1<K6 T9 (b::t);rw [if_pos (.inl h4)];show ((!decide (b=48))||decide (K6 T9 (b::t)=1))=false
 rw [decide_eq_true h4.1,decide_eq_false (by omega)];rfl;rw [if_neg (by rintro (h | h);exact h4 h;omega)]
 refine⟨?_,rfl,rfl⟩;by_cases h5:b=48;have:K6 T9 (b::t)=1:=by have:¬ 1<K6 T9 (b::t):=λh=>h4 ⟨h5,h⟩;omega
 simp [this];simp [h5];refine⟨2,(b::t).take (K6 T9 (b::t)),false,m2.set m.nx (j4 [iV 2,.str ((b::t).take (K6 T9 (b::t)))]),?_,E3 _,?_⟩;rw [enter (sf:=f26) rfl rfl];have e3:decide (v<=9007199254740992)=false:=decide_eq_false h3;simp [f26,p9,u7,z8 hm,G7 hm,O4 hm hl,H6 hm hl,K3 hm,H7 hm,K5,q0,c45,c47,hr,q1,ga,st,hg2,e3,h3,gs];rw [jE,if_neg h1,if_pos h2,if_pos (.inr (by omega))];have hbig:9223372036854775808<=oF ((b::t).take (K6 T9 (b::t))):=by rcases Fe _ hrne hd with⟨a1,a2⟩ | ⟨a1,a2⟩;exact absurd a2 (hno _);exact a1
 refine⟨2,(b::t).take (K6 T9 (b::t)),false,m2.set m.nx (j4 [iV 2,.str ((b::t).take (K6 T9 (b::t)))]),?_,E3 _,?_⟩;rw [enter (sf:=f26) rfl rfl];simp [f26,p9,u7,z8 hm,G7 hm,O4 hm hl,H6 hm hl,K3 hm,H7 hm,K5,q0,c45,c47,hr,q1,ga,st,hg2,gs];rw [jE,if_neg h1,if_pos h2,if_pos (.inr (by omega))];have h2':T9 b=false:=by simpa using h2
 rw [h2'] at c47;let M:=ext m [j4 [iV 0,.str []],.cells 1 4 (T.ofList ((strs wB).map ([·])))]
 have hM:M.get m.nx=some (j4 [iV 0,.str []]):=by rw [z8 hm];rfl
 have hv:gJ M (.slice (m.nx+1) 0 4 4) (strs wB):=by have:=vD (m:=m.new (j4 [iV 0,.str []])) (Mem.Ok.new hm _) (strs wB);exact this
 have hlM:M.lim<=m.nx:=by simpa [M] using hl
 have hOk:M.Ok:=oo hm _;obtain⟨c',x',y',i',gg⟩:=YM (M:=M) (p:=m.nx) (n:=n+1) (fu:=fu) (b::t) hM hlM hv 4 0 rfl .undef .undef .undef fu (by omega);have gg':I4 (λenv m k=>Ip (o9 KW fu (n+3)) fu none env m k) fu (VO (.str (b::t)) (.bool false) .undef (.ptr m.nx 0) (.bool false) .undef .undef .undef (iV 0) (iV 4) .undef (.slice (m.nx+1) 0 4 4) .undef .undef (.bool false)) M []=_:=gg;rw [show wB.drop 0=wB from rfl,QS] at gg';simp only [M] at gg';by_cases h3:qQ ((b::t).take 2)=true;rw [h3] at gg';refine⟨3,(b::t).take 2,true,M.set m.nx (j4 [iV 3,.str ((b::t).take 2)]),?_,(y9 hm _).set (by simp) (J2 _) _,?_⟩;rw [enter (sf:=f26) rfl rfl];have gs:∀B,(M.set m.nx B).get m.nx=some B:=λB=>y8 hOk _ (by simp [M]) rfl;simp only [M] at gs;simp [f26,p9,u7,z8 hm,G7 hm,O4 hm hl,H6 hm hl,K3 hm,H7 hm,K5,q0,c45,c47,bs4,gg',gs,M];rw [jE,if_neg h1,if_neg h2,if_pos h3];exact⟨rfl,rfl,rfl⟩;have h3':qQ ((b::t).take 2)=false:=by simpa using h3
 rw [h3'] at gg';have q1:=λx hi ls env hx hh=>zC (x:=x) (hi:=hi) (ls:=ls) (env:=env) (s:=b::t) (h:=1) hx hh (by simp);have hc:=Ny ones b (n+2) fu M;rw [Ti] at hc;simp only [M,ones] at hc;refine⟨3,[b],ones.contains b,M.set m.nx (j4 [iV 3,.str [b]]),?_,(y9 hm _).set (by simp) (J2 _) _,?_⟩;rw [enter (sf:=f26) rfl rfl];simp only [ones];simp [f26,p9,u7,z8 hm,G7 hm,O4 hm hl,H6 hm hl,K3 hm,H7 hm,K5,q0,c45,c47,bs4,gg',q1,hc,M,-List.contains_eq_mem,-List.contains_cons,-List.elem_eq_contains];rw [jE,if_neg h1,if_neg h2,if_neg h3];by_cases h4:ones.contains b=true;rw [if_pos h4];exact⟨h4,rfl,rfl⟩;rw [if_neg h4];simpa using h4
theorem bG {m:Mem}(hm:m.Ok)(hl:m.lim<=m.nx):(∀l:List O9,(ext m l).get m.nx=l[0]?)∧(∀(l:List O9) (c:Nat),(ext m l).get (m.nx+c)=l[c]?)∧
  (∀(Q:Type) (l:List O9) (c off:Nat) (vs:List j3) (k:Mem->Option Q),storeAt (ext m l) (m.nx+c) off vs k=bi (O0 vs) (ob (FD l[c]? off vs) λb=>k (ext m (l.set c b))) none)∧
  (∀(Q:Type) (l:List O9) (off:Nat) (vs:List j3) (k:Mem->Option Q),storeAt (ext m l) m.nx off vs k=bi (O0 vs) (ob (FD l[0]? off vs) λb=>k (ext m (l.set 0 b))) none)∧
  (∀(l:List O9) (c:Nat) (b:O9),c<l.length->(ext m l).set (m.nx+c) b=ext m (l.set c b))∧∀(l:List O9) (b:O9),0<l.length->(ext m l).set m.nx b=ext m (l.set 0 b):=
 ⟨z8 hm,G7 hm,λ_=>O4 hm hl,λ_=>H6 hm hl,K3 hm,H7 hm⟩
def Brd (s:By)(pos nx:Nat):Prop:=nx<=s.length∧(nx=s.length∨(∀i (h:i<s.length),pos<=i->i<nx->(s[i]).toNat<128)∨∃h:nx<s.length,s[nx]=10)
theorem Brd.mono {s:By}{pos pos' nx:Nat}(h:Brd s pos nx)(hp:pos<=pos'):Brd s pos' nx:=
 ⟨h.1,h.2.imp id (Or.imp (λh i hi h1 h2=>h i hi (by omega) h2) id)⟩
theorem Brd.step {s:By}{pos nx:Nat}(h:Brd s pos nx)(hl:pos<s.length)(hp:pos<nx):pos+(Utf8.decode ⟨s.toArray⟩ pos).2<=nx:=by rcases IG s pos hl with⟨h1,h2⟩ | ⟨h1,h2,h3,h4,h5,h6⟩;rw [h2];exact hp;rcases h.2 with h7 | h7 | ⟨h7,h8⟩;omega;have:=h7 pos hl (J2 _) hp;omega;refine ae7 λhn=>?_;have:=h6 nx h7 (by omega) (by omega);rw [h8] at this;exact absurd this (by decide)
def eO (t:Tok):List j3:=[iV (t.1:Nat),.str t.2]
def H9 (l:List Tok):List (List j3):=l.map eO
theorem BO (l:List Tok)(t:Tok):H9 (l ++ [t])=H9 l ++ [eO t]:=by simp [H9]
theorem VP {m:Mem}{s:By}{p pos:Nat}(h:m.get p=some (.siter s pos))(hl:m.lim<=p)(hp:pos<s.length)(it:OF)(cf:F4)(ls:List j3)(env:T j3)(hi:it ls env=.ptr p 0):
  Dg it cf ls env m=some [⟨.tuple [.bool true,iV (pos:Nat),.int .i32 ((Utf8.decode ⟨s.toArray⟩ pos).1:Nat)],m.set p (.siter s (pos+(Utf8.decode ⟨s.toArray⟩ pos).2))⟩]:=by
 show gK (it ls env) (λid off=>bi (Nat.beq off 0) (bi (Nat.blt id m.lim) none (Je (m.get id) λs pos=>bi (Nat.blt pos (len' s)) _ _)) none)=_;rw [hi,Qu,show Nat.beq 0 0=true from rfl,P7,show Nat.blt p m.lim=false from ac3.2 λe=>by have:=Y8.mp e;omega,S9,h];show bi (Nat.blt pos (len' s)) _ _=_;rw [I9,show Nat.blt pos s.length=true from Y8.mpr hp];rfl
theorem IJ {m:Mem}{s:By}{p:Nat}(h:m.get p=some (.siter s s.length))(hl:m.lim<=p)(it:OF)(cf:F4)(ls:List j3)(env:T j3)(hi:it ls env=.ptr p 0):
  Dg it cf ls env m=some [⟨.tuple [.bool false],m⟩]:=by
 show gK (it ls env) (λid off=>bi (Nat.beq off 0) (bi (Nat.blt id m.lim) none (Je (m.get id) λs pos=>bi (Nat.blt pos (len' s)) _ _)) none)=_;rw [hi,Qu,show Nat.beq 0 0=true from rfl,P7,show Nat.blt p m.lim=false from ac3.2 λe=>by have:=Y8.mp e;omega,S9,h];show bi (Nat.blt s.length (len' s)) _ _=_;rw [I9,show Nat.blt s.length s.length=false from ac3.2 λe=>by have:=Y8.mp e;omega];rfl
def gY (s:By)(p:Nat)(acc:List Tok)(M:Mem)(r:Option (List Out))(l:Sum Nat (List Tok)):Prop:=
 (∃(ts:List Tok) (e3 e4 e5 e6 e7 e8 e9 e10 e11 out e13:j3) (M':Mem),l=.inr ts∧r=some [⟨.exit 0,(Tg (.str s) (.bool false) (.ptr p 0) e3 e4 e5 e6 e7 e8 e9 e10 e11 out e13 nS (iV 0) (iV 0)),M',[],none⟩]∧Fr (p+1) p M M'∧aM (p+1) 2 M' out (H9 (acc++ts))∧(acc++ts).length<=s.length)∨
 (∃(j:Nat) (e3 e4 e5 e6 e7 e8 e9 e10 e11 out e13:j3) (M':Mem),l=.inl j∧r=some [⟨.ret,(Tg (.str s) (.bool false) (.ptr p 0) e3 e4 e5 e6 e7 e8 e9 e10 e11 out e13 nS (iV 7) (iV (j:Int))),M',[],none⟩]∧Fr (p+1) p M M')
theorem gY.fr {s:By}{p:Nat}{acc:List Tok}{M M1:Mem}{r:Option (List Out)}{l:Sum Nat (List Tok)}(h:gY s p acc M1 r l)(hf:Fr (p+1) p M M1):gY s p acc M r l:=by rcases h with⟨ts,e3,e4,e5,e6,e7,e8,e9,e10,e11,out,e13,M',h1,h2,h3,h4⟩ | ⟨j,e3,e4,e5,e6,e7,e8,e9,e10,e11,out,e13,M',h1,h2,h3⟩;exact .inl ⟨ts,e3,e4,e5,e6,e7,e8,e9,e10,e11,out,e13,M',h1,h2,hf.trans h3,h4⟩;exact .inr ⟨j,e3,e4,e5,e6,e7,e8,e9,e10,e11,out,e13,M',h1,h2,hf.trans h3⟩
theorem gY.tok {s:By}{p k l i:Nat}{b:UInt8}{t:By}{acc:List Tok}{M:Mem}{r:Option (List Out)}(hb:¬(b=32∨b=10))(h1:b≠35)(ht:jE (b::t)=some (k,l))
  (h:gY s p (acc ++ [(k,(b::t).take l)]) M r (lV (i+l) ((b::t).drop l))):gY s p acc M r (lV i (b::t)):=by
 rw [Nw hb h1 ht];rcases h with⟨ts,e3,e4,e5,e6,e7,e8,e9,e10,e11,out,e13,M',h1,h2,h3,h4⟩ | ⟨j,e3,e4,e5,e6,e7,e8,e9,e10,e11,out,e13,M',h1,h2,h3⟩;rw [h1];exact .inl ⟨_,e3,e4,e5,e6,e7,e8,e9,e10,e11,out,e13,M',rfl,h2,h3,by simpa using h4⟩;rw [h1];exact .inr ⟨j,e3,e4,e5,e6,e7,e8,e9,e10,e11,out,e13,M',rfl,h2,h3⟩
theorem acn {p n fu:Nat}(s:By)(hs:s.length<=10000)(hfu:s.length+20<=fu):∀(r pos:Nat),s.length-pos<=r->pos<=s.length->
  ∀(nx:Nat) (acc:List Tok) (e3 e4 e5 e7 e8 e9 e10 e11 out e13:j3) (M:Mem) (N:Nat),M.Ok->M.lim<=p->p<M.nx->M.get p=some (.siter s pos)->Brd s pos nx->aM (p+1) 2 M out (H9 acc)->acc.length<=max pos nx->r+1<=N->
  gY s p acc M (I4 (λenv m k=>Cg (o9 KW fu (n+4)) fu none env m k) N (Tg (.str s) (.bool false) (.ptr p 0) e3 e4 e5 (iV (nx:Int)) e7 e8 e9 e10 e11 out e13 nS (iV 0) (iV 0)) M []) (lV (max pos nx) (s.drop (max pos nx))):=by
 intro r;induction r with
 | zero=>
  intro pos hr hle nx acc e3 e4 e5 e7 e8 e9 e10 e11 out e13 M N hM hl hp hg hb ho hac hN;obtain⟨N,rfl⟩:∃k,N=k+1:=⟨N-1,by omega⟩;obtain rfl:pos=s.length:=by omega
  have hmx:max s.length nx=s.length:=by have:=hb.1;omega
  have ge:=λit cf ls env hi=>IJ (m:=M) (s:=s) (p:=p) hg hl it cf ls env hi;rw [hmx,abT (J2 _),zG];refine .inl ⟨[],.bool false,.tuple [.bool false],e5,iV (nx:Nat),e7,e8,e9,e10,e11,out,e13,M,rfl,?_,Fr.refl hM,by simpa using ho,by simpa [hmx] using hac⟩;rw [w9];simp [Cg,ge]
 | succ r ih=>
  intro pos hr hle nx acc e3 e4 e5 e7 e8 e9 e10 e11 out e13 M N hM hl hp hg hb ho hac hN;obtain⟨N,rfl⟩:∃k,N=k+1:=⟨N-1,by omega⟩;by_cases hlt:pos<s.length;have ge:=λit cf ls env hi=>VP (m:=M) (s:=s) (p:=p) (pos:=pos) hg hl hlt it cf ls env hi;have hstep:=λh=>hb.step hlt h;have hdc:=IG s pos hlt;have hdr:s.drop pos=s[pos]::s.drop (pos+1):=Y6 hlt;generalize hD:Utf8.decode ⟨s.toArray⟩ pos=D at ge hstep hdc;obtain⟨c,w⟩:=D;simp only at ge hstep hdc;have hwp:1<=w∧pos+w<=s.length∧c<2147483648:=by rcases hdc with⟨h1,h2⟩ | ⟨h1,h2,h3,h4,h5,h6⟩;cases h2;omega;omega
  have hM1:(M.set p (.siter s (pos+w))).Ok:=Mem.Ok.set hM hp _;have hg1:(M.set p (.siter s (pos+w))).get p=some (.siter s (pos+w)):=y8 hM _ hp rfl;have hf1:Fr (p+1) p M (M.set p (.siter s (pos+w))):=⟨hM1,by simp,by simp,λi hi hn=>p8 hM _ hp hn⟩;have ho1:aM (p+1) 2 (M.set p (.siter s (pos+w))) out (H9 acc):=ho.keep (by simp) λi h1 h2=>p8 hM _ hp (by omega);generalize hM1e:M.set p (.siter s (pos+w))=M1 at ge hM1 hg1 hf1 ho1;have hn1:M.nx=M1.nx:=by rw [← hM1e];rfl
  have hl1:M1.lim<=p:=by rw [hf1.lim];exact hl
  by_cases hnx:pos<nx;have h1:=hstep hnx;have hmx:max pos nx=max (pos+w) nx:=by omega
  have g:=ih (pos+w) (by omega) (by omega) nx acc (.bool true) (.tuple [.bool true,iV (pos:Nat),.int .i32 (c:Nat)]) (iV (pos:Nat)) (.int .i32 (c:Nat)) (.bool true) e9 e10 e11 out e13 M1 N hM1 hl1 (by omega) hg1 (hb.mono (by omega)) ho1 (by omega) (by omega);rw [hmx];refine gY.fr ?_ hf1;rw [w9];refine Eq.mpr (congrArg (λr=>gY s p _ _ r _) ?_) g;simp [Cg,ge,hnx];have hmx:max pos nx=pos:=by omega
  rw [hmx] at hac ⊢;rw [hdr];have hc32:(c:Int)=32↔s[pos]=32:=by rcases hdc with⟨h1,h2⟩ | ⟨h1,h2,_⟩;cases h2;exact⟨λh=>adE.1 (by simp;omega),λh=>by rw [h];rfl⟩;exact⟨λh=>by omega,λh=>by rw [h] at h1;exact absurd h1 (by decide)⟩
  have hc10:(c:Int)=10↔s[pos]=10:=by rcases hdc with⟨h1,h2⟩ | ⟨h1,h2,_⟩;cases h2;exact⟨λh=>adE.1 (by simp;omega),λh=>by rw [h];rfl⟩;exact⟨λh=>by omega,λh=>by rw [h] at h1;exact absurd h1 (by decide)⟩
  have hc35:(c:Int)=35↔s[pos]=35:=by rcases hdc with⟨h1,h2⟩ | ⟨h1,h2,_⟩;cases h2;exact⟨λh=>adE.1 (by simp;omega),λh=>by rw [h];rfl⟩;exact⟨λh=>by omega,λh=>by rw [h] at h1;exact absurd h1 (by decide)⟩
  have hw1:(s[pos]).toNat<128->w=1:=λh=>by rcases hdc with⟨h1,h2⟩ | ⟨h1,_⟩;cases h2;rfl;omega
  have d32:decide ((c:Int)=32)=decide (s[pos]=32):=by rw [aas];simpa using hc32
  have d10:decide ((c:Int)=10)=decide (s[pos]=10):=by rw [aas];simpa using hc10
  have d35:decide ((c:Int)=35)=decide (s[pos]=35):=by rw [aas];simpa using hc35
  have bt:∀(P:Prop) [Decidable P],P->decide P=true:=λP _ h=>decide_eq_true h;have q1:=λx lo ls env hx hl=>VE (x:=x) (lo:=lo) (ls:=ls) (env:=env) (s:=s) (l:=pos) hx hl (by omega);by_cases hbl:s[pos]=32∨s[pos]=10;have hw:w=1:=hw1 (by rcases hbl with h | h<;>rw [h]<;>decide)
  subst hw;rw [Fb hbl];have g:=ih (pos+1) (by omega) (by omega) nx acc (.bool true) (.tuple [.bool true,iV (pos:Nat),.int .i32 (c:Nat)]) (iV (pos:Nat)) (.int .i32 (c:Nat)) (.bool true) e9 e10 e11 out e13 M1 N hM1 hl1 (by omega) hg1 (hb.mono (by omega)) ho1 (by omega) (by omega);rw [show max (pos+1) nx=pos+1 from by omega] at g;refine gY.fr ?_ hf1;rw [w9];refine Eq.mpr (congrArg (λr=>gY s p _ _ r _) ?_) g;rcases hbl with h | h;have e1:=hc32.2 h;simp [Cg,ge,hnx,e1];have e1:=hc10.2 h;have e2:¬ (c:Int)=32:=by omega
  simp [Cg,ge,hnx,e1,e2];have n32:¬ (c:Int)=32:=λh=>hbl (.inl (hc32.1 h));have n10:¬ (c:Int)=10:=λh=>hbl (.inr (hc10.1 h));by_cases h35:s[pos]=35;have hw:w=1:=hw1 (by rw [h35];decide);subst hw;have hc:=hc35.2 h35;have hr0:=Py (m:=M1) (g:=25) (p:=λc=>c != 10) (n:=n+3) (fu:=fu) (s.drop pos) (by simp;omega) (λc=>acg c (n+2) fu _) (by simp;omega);have hrl:=dX (λc=>c != 10) (s.drop pos);rw [abR] at hrl;have hr1:1<=K6 (λc=>c != 10) (s.drop pos):=by rw [hdr,K6,if_pos (by rw [h35];decide)];omega
  have hbr:Brd s (pos+1) (pos+K6 (λc=>c != 10) (s.drop pos)):=by
   refine⟨by omega,?_⟩;by_cases he:pos+K6 (λc=>c != 10) (s.drop pos)=s.length;exact .inl he;have hlt':K6 (λc=>c != 10) (s.drop pos)<(s.drop pos).length:=by rw [abR];omega
   have:=qP (λc=>c != 10) (s.drop pos) hlt';rw [ae0] at this;exact .inr (.inr ⟨by omega,by simpa using this⟩)
  have g:=ih (pos+1) (by omega) (by omega) (pos+K6 (λc=>c != 10) (s.drop pos)) acc (.bool true) (.tuple [.bool true,iV (pos:Nat),.int .i32 (c:Nat)]) (iV (pos:Nat)) (.int .i32 (c:Nat)) (.bool false) (.bool true) e10 e11 out e13 M1 N hM1 hl1 (by omega) hg1 hbr ho1 (by omega) (by omega);rw [show max (pos+1) (pos+K6 (λc=>c != 10) (s.drop pos))=pos+K6 (λc=>c != 10) (s.drop pos) from by omega] at g;have e1:iU ((pos:Int)+(K6 (λc=>c != 10) (s.drop pos):Int))=((pos+K6 (λc=>c != 10) (s.drop pos):Nat):Int):=by rw [L8 (by omega) (by omega)];omega
  have hlx:lV pos (s[pos]::s.drop (pos+1))=lV (pos+K6 (λc=>c != 10) (s.drop pos)) (s.drop (pos+K6 (λc=>c != 10) (s.drop pos))):=by
   have:s.drop pos=35::s.drop (pos+1):=by rw [hdr,h35]
   rw [h35,IE,← this,Z6]
  rw [hlx];refine gY.fr ?_ hf1;rw [w9];refine Eq.mpr (congrArg (λr=>gY s p _ _ r _) ?_) g;simp [Cg,ge,hnx,hc,q1,hr0,e1];have n35:¬ (c:Int)=35:=λh=>h35 (hc35.1 h);obtain⟨k,tx,ok,M2,ga,E2,hk⟩:=acj hM1 (by omega) s[pos] (s.drop (pos+1)) (by simp;omega) n fu (by simp;omega);rw [← hdr] at ga;have hm:=E2.ok;have hl2:M2.lim<=M2.nx:=by rw [E2.lim];exact Xl (by omega) E2.nx
  have hg2:M2.get p=some (.siter s (pos+w)):=(E2.old p (by omega)).trans hg1;cases htk:jE (s[pos]::s.drop (pos+1)) with
  | none=>rw [htk] at hk;obtain rfl:ok=false:=hk;rw [Nv hbl h35 htk];refine gY.fr (.inr ⟨pos,.bool true,.tuple [.bool true,iV (pos:Nat),.int .i32 (c:Nat)],iV (pos:Nat),iV (nx:Nat),.int .i32 (c:Nat),.bool false,.bool false,.bool false,.bool true,out,.ptr M2.nx 0,ext M2 [j4 [iV k,.str tx]],rfl,?_,(E2.fr (by omega)).trans ((y9 hm _).fr (Xl (by omega) E2.nx))⟩) hf1;rw [w9];have S':=bG hm hl2;obtain⟨x1,x2,x3,x4,x5,x6⟩:=S';simp [Cg,ge,hnx,n32,n10,n35,q1,ga,p9,u7,x1,x2,x3,x4,x5,x6,K5]
  | some q=>
   obtain⟨k',l⟩:=q;rw [htk] at hk;obtain⟨rfl,rfl,rfl⟩:=hk;obtain⟨hl1',hl2',hk1,hk2,hasc⟩:=vB htk;have hw:w=1:=hw1 (by have:=hasc 0 (by simp;omega) (by omega);simpa using this);subst hw;have hlen:l<=s.length-pos:=by simpa [← hdr] using hl2'
   have htx:((s[pos]::s.drop (pos+1)).take l).length=l:=by rw [aio];omega
   have hm1:(ext M2 [j4 [iV (k':Int),.str ((s[pos]::s.drop (pos+1)).take l)]]).Ok:=oo hm _;have E3:Ext M2 (ext M2 [j4 [iV (k':Int),.str ((s[pos]::s.drop (pos+1)).take l)],j4 [iV (k':Int),.str ((s[pos]::s.drop (pos+1)).take l)]]):=y9 hm _;have hx:V7 (ext M2 [j4 [iV (k':Int),.str ((s[pos]::s.drop (pos+1)).take l)],j4 [iV (k':Int),.str ((s[pos]::s.drop (pos+1)).take l)]]) 2 (.slice (M2.nx+1) 0 1 1) [eO (k',(s[pos]::s.drop (pos+1)).take l)]:=by have:=oz hm1 (eO (k',(s[pos]::s.drop (pos+1)).take l)) (by simp [eO]);exact this
   have ho2:=(ho1.ext E2).ext E3;obtain⟨v5,M5,gb,ho5,F5,old5⟩:=Kh (lo:=p+1) (rs:=2) (bytes:=24) (r:=eO (k',(s[pos]::s.drop (pos+1)).take l)) E3.ok (by simp;rw [E2.lim];omega) (by simp;have:=E2.nx;omega) (by omega) ho2 hx (by simp [eO]) (by simp [eO,K5]) (by simp [H9];omega) ⟨by omega,by omega⟩;have po:=Ch ho5.slice;have hold:M5.get M2.nx=some (j4 [iV (k':Int),.str ((s[pos]::s.drop (pos+1)).take l)]):=by
    rw [old5 M2.nx (by simp) λo n e hv=>by
     have:=(ho1.lt hv).2;have:=E2.nx;omega,z8 hm]
    rfl
   have FF:Fr (p+1) p M1 M5:=(E2.fr (by omega)).trans ((E3.fr (Xl (by omega) E2.nx)).trans ((F5.mono (q:=p+1) (J2 _)).down (J2 _) |> λF=>⟨F.ok,F.nx,F.lim,λi hi hn=>F.old i hi (by omega)⟩))
   have hg5:M5.get p=some (.siter s (pos+1)):=by rw [F5.old p (by omega) (by omega),E3.old p (Xb (by omega) E2.nx)];exact hg2
   have hbr:Brd s (pos+1) (pos+l):=⟨by omega,.inr (.inl λi hi h1 h2=>by
    have:=hasc (i-pos) (by simp;omega) (by omega);have e:(s[pos]::s.drop (pos+1))[i-pos]'(by simp;omega)=s[i]:=by have h3:(s.drop pos)[i-pos]'(by simp;omega)=s[i]:=(by rw [ae0];congr 1;omega);rw [← h3];congr 1;exact hdr.symm
    rwa [e] at this)⟩
   have g:=ih (pos+1) (by omega) (by omega) (pos+l) (acc ++ [(k',(s[pos]::s.drop (pos+1)).take l)]) (.bool true) (.tuple [.bool true,iV (pos:Nat),.int .i32 (c:Nat)]) (iV (pos:Nat)) (.int .i32 (c:Nat)) (.bool false) (.bool false) (.bool true) (.bool false) v5 (.ptr M2.nx 0) M5 N F5.ok (by rw [FF.lim];exact hl1) (Xb (by omega) FF.nx) hg5 hbr (by rw [BO];exact ho5) (by simp;omega) (by omega);rw [show max (pos+1) (pos+l)=pos+l from by omega] at g;have e1:iU ((pos:Int)+(l:Int))=((pos+l:Nat):Int):=by rw [L8 (by omega) (by omega)];omega
   refine gY.tok hbl h35 htk ?_;rw [show (s[pos]::s.drop (pos+1)).drop l=s.drop (pos+l) from by rw [← hdr,Z6]];refine gY.fr ?_ (hf1.trans FF);rw [w9];refine Eq.mpr (congrArg (λr=>gY s p _ _ r _) ?_) g;obtain⟨x1,x2,x3,x4,x5,x6⟩:=bG hm hl2;have hbs:∀z ps ls env nid,List.length z=2->F8 2 1 z ps ls env nid=ob (lay ps ls env z) λcells=>if cells.length=2 then some (.slice nid 0 1 1,some (j4 cells)) else none:=λz ps ls env nid h=>gX 2 z ps ls env nid h
   generalize (s[pos]::s.drop (pos+1)).take l=tx at *;simp [Cg,ge,hnx,n32,n10,n35,q1,ga,p9,u7,x1,x2,x3,x4,x5,x6,K5,hbs,gb,po,hold,htx,e1]
  obtain rfl:pos=s.length:=by omega
  have hmx:max s.length nx=s.length:=by have:=hb.1;omega
  have ge:=λit cf ls env hi=>IJ (m:=M) (s:=s) (p:=p) hg hl it cf ls env hi;rw [hmx,abT (J2 _),zG];refine .inl ⟨[],.bool false,.tuple [.bool false],e5,iV (nx:Nat),e7,e8,e9,e10,e11,out,e13,M,rfl,?_,Fr.refl hM,by simpa using ho,by simpa [hmx] using hac⟩;rw [w9];simp [Cg,ge]
theorem agq {m:Mem}(hm:m.Ok)(hl:m.lim<=m.nx)(s:By)(hs:s.length<=8000)(n fu:Nat)(hfu:s.length+20<=fu):
  ∃(v:j3) (e a:Int) (m':Mem),o9 KW fu (n+5) (.func 8) [.str s] m=some [⟨.tuple [v,iV e,iV a],m'⟩]∧Ext m m'∧
   match lV 0 s with
   | .inr ts=>aM m.nx 2 m' v (H9 ts)∧ts.length<=s.length∧e=0∧a=-1
   | .inl j=>v=nS∧e=7∧a=(j:Int):=by
 have hM:(m.new (.siter s 0)).Ok:=Mem.Ok.new hm _;have g:=acn (p:=m.nx) (n:=n) (fu:=fu) s (by omega) hfu s.length 0 (by omega) (by omega) 0 [] .undef .undef .undef .undef .undef .undef .undef .undef nS .undef (m.new (.siter s 0)) fu hM (by simpa using hl) (by simp) (zn hm _ rfl)
  ⟨by omega,.inr (.inl λi hi h1 h2=>by omega)⟩ (aM.nil _ _ _) (by simp) (by omega)
 have rs:∀cf ls env mm x,x ls env=.str s->Cj x cf ls env mm=some [⟨.ptr mm.nx 0,mm.new (.siter s 0)⟩]:=λcf ls env mm x hx=>by show lJ (x ls env) _=_;rw [hx];rfl
 have e1:decide ((8000:Int)<(s.length:Int))=false:=decide_eq_false (by omega);have hE:∀M',Fr (m.nx+1) m.nx (m.new (.siter s 0)) M'->Ext m M':=λM' F=>by refine⟨F.ok,Xl (by simp) F.nx,F.lim,λi hi=>?_⟩;rw [F.old i (by omega) (by omega),rX hm _ (by omega)]
 rw [show max 0 0=0 from rfl,Y3] at g;rcases g with⟨ts,e3,e4,e5,e6,e7,e8,e9,e10,e11,out,e13,M',h1,h2,h3,h4,h5⟩ | ⟨j,e3,e4,e5,e6,e7,e8,e9,e10,e11,out,e13,M',h1,h2,h3⟩;have g':I4 (λenv m k=>Cg (o9 KW fu (n+4)) fu none env m k) fu (Tg (.str s) (.bool false) (.ptr m.nx 0) .undef .undef .undef (iV 0) .undef .undef .undef .undef .undef nS .undef nS (iV 0) (iV 0)) (m.new (.siter s 0)) []=_:=h2;rw [aec] at h4 h5;refine⟨out,0,-1,M',?_,hE M' h3,?_⟩;rw [enter (sf:=f8) rfl rfl];simp [f8,rs,e1,g'];rw [h1];exact⟨h4.down (by omega),h5,rfl,rfl⟩;have g':I4 (λenv m k=>Cg (o9 KW fu (n+4)) fu none env m k) fu (Tg (.str s) (.bool false) (.ptr m.nx 0) .undef .undef .undef (iV 0) .undef .undef .undef .undef .undef nS .undef nS (iV 0) (iV 0)) (m.new (.siter s 0)) []=_:=h2;refine⟨nS,7,j,M',?_,hE M' h3,?_⟩;rw [enter (sf:=f8) rfl rfl];simp [f8,rs,e1,g'];rw [h1];exact⟨rfl,rfl,rfl⟩
theorem YN {x y:OF}{ls:List j3}{env:T j3}{a b:Nat}(hx:x ls env=.int .i64 (a:Int))(hy:y ls env=.int .i64 (b:Int)):WM false x [y] ls env=some (.int .i64 ((min a b:Nat):Int)):=by show ob (mm2 false (x ls env) (y ls env)) some=_;rw [hx,hy];show some (j3.int .i64 (bi (jF (b:Int) (a:Int)) (b:Int) (a:Int)))=_;by_cases h:b<a;rw [show jF (b:Int) (a:Int)=true from by rw [fG];simp;omega,P7,Nat.min_eq_right (by omega)];rw [show jF (b:Int) (a:Int)=false from by rw [fG];simp;omega,S9,Nat.min_eq_left (by omega)]
theorem agr (b:UInt8)(h:T9 b=true):KR .u8 ((b.toNat:Nat):Int) 48=some (.int .u8 ((b.toNat-48:Nat):Int)):=by simp only [T9,U9,decide_eq_true_eq] at h;show some (j3.int .u8 ((((b.toNat:Nat):Int)-48)%256))=_;congr 2;omega
theorem YO {m:Mem}(s:By)(hs:s.length<=100000)(hd:∀b∈s,T9 b=true)(cf:F4)(fu:Nat):∀(j i:Nat),i+j=s.length->∀(c:j3) (N:Nat),j+1<=N->
  I4 (λenv m k=>Nq cf fu none env m k) N (nV5 (iV (i:Int)) (.str s) c (.int .i64 (tq (s.take i):Int)) (iV 0)) m []=some [⟨.exit 0,(nV5 (iV (s.length:Int)) (.str s) (.bool false) (iV (tq s:Int)) (iV 0)),m,[],none⟩]:=by
 intro j;induction j with
 | zero=>
  intro i hi c N hN;obtain⟨N,rfl⟩:∃k,N=k+1:=⟨N-1,by omega⟩;obtain rfl:i=s.length:=by omega
  rw [w9,aar (J2 _)];simp [Nq]
 | succ j ih=>
  intro i hi c N hN;obtain⟨N,rfl⟩:∃k,N=k+1:=⟨N-1,by omega⟩;have hlt:i<s.length:=by omega
  have q:=λx lo ls env hx hl=>fH (x:=x) (lo:=lo) (ls:=ls) (env:=env) (s:=s) (l:=i) hx hl hlt;have hb:=hd s[i] (abX hlt);have e2:=agr s[i] hb;have hv:=YI (s.take i);have hbt:(s[i]).toNat-48<10:=by simp only [T9,U9,decide_eq_true_eq] at hb;omega
  have e3:iU (10*(tq (s.take i):Int))=((10*tq (s.take i):Nat):Int):=by rw [L8 (by omega) (by omega)];omega
  have cw:∀k:Int,0<=k->k<256->sF .i64 k=k:=λk h1 h2=>L8 (by omega) (by omega);have e4:sF .i64 (((s[i]).toNat-48:Nat):Int)=(((s[i]).toNat-48:Nat):Int):=cw _ (by omega) (by omega);have e5:iU (((10*tq (s.take i):Nat):Int)+(((s[i]).toNat-48:Nat):Int))=((10*tq (s.take i)+((s[i]).toNat-48):Nat):Int):=by rw [L8 (by omega) (by omega)];omega
  have hmm:=λ(x:OF) ls env (hx:x ls env=.int .i64 ((10*tq (s.take i)+((s[i]).toNat-48):Nat):Int))=>YN (x:=x) (y:=D8 (iV 9007199254740993)) (ls:=ls) (env:=env) (a:=10*tq (s.take i)+((s[i]).toNat-48)) (b:=9007199254740993) hx rfl;have e6:min (10*tq (s.take i)+((s[i]).toNat-48)) 9007199254740993=tq (s.take (i+1)):=by rw [ad7 hlt,Te]
  simp only [e6] at hmm;have g:=ih (i+1) (by omega) (.bool true) N (by omega);rw [w9,← g];generalize hA:10*tq (s.take i)=A at *;generalize hB:(s[i]).toNat-48=B at *;simp only [adW] at e5;simp [Nq,hlt,q,e2,e3,e4,e5,hmm,Y9 (i:=i) (by omega)]
theorem VQ (s:By)(hs:s.length<=100000)(hd:∀b∈s,T9 b=true)(n fu:Nat)(hfu:s.length+1<=fu)(m:Mem):o9 KW fu (n+1) (.func 53) [.str s] m=some [⟨iV (tq s:Int),m⟩]:=by have g:=YO (m:=m) s hs hd (o9 KW fu n) fu s.length 0 (by omega) .undef fu (by omega);have g':I4 (λenv m k=>Nq (o9 KW fu n) fu none env m k) fu (nV5 (iV 0) (.str s) .undef (iV 0) (iV 0)) m []=_:=g;rw [enter (sf:=f53) rfl rfl];simp [f53,g']
theorem YP {m:Mem}{v:j3}(l:List By)(hlen:l.length<=100000)(hv:gJ m v (strs l))(s:By)(cf:F4)(fu:Nat):∀(j i:Nat),i+j=l.length->∀(c x:j3) (N:Nat),j+1<=N->
  ∃i' c' x':j3,I4 (λenv m k=>Iw cf fu none env m k) N (Xh (iV (i:Int)) v c (.str s) x (.bool false)) m [] =
   bi ((l.drop i).any λt=>decide (s=t)) (some [⟨.ret,(Xh i' v c' (.str s) x' (.bool true)),m,[],none⟩]) (some [⟨.exit 0,(Xh i' v c' (.str s) x' (.bool false)),m,[],none⟩]):=by
 intro j;induction j with
 | zero=>
  intro i hi c x N hN;obtain⟨N,rfl⟩:∃k,N=k+1:=⟨N-1,by omega⟩;obtain rfl:i=l.length:=by omega
  have hn:=hv.len;rw [eH] at hn;refine⟨iV (l.length:Int),.bool false,x,?_⟩;rw [w9,abT (J2 _)];simp [Iw,hn]
 | succ j ih=>
  intro i hi c x N hN;obtain⟨N,rfl⟩:∃k,N=k+1:=⟨N-1,by omega⟩;have hlt:i<l.length:=by omega
  have hn:=hv.len;rw [eH] at hn;obtain⟨id,off,g1,g2,g3⟩:=hv.at (i:=i) (by rw [eH];omega);have e3:(strs l)[i]'(by rw [eH];exact hlt)=.str l[i]:=aip ..;rw [e3] at g3;have hd:l.drop i=l[i]::l.drop (i+1):=Y6 hlt;by_cases ht:s=l[i];refine⟨iV (i:Int),.bool true,.bool true,?_⟩;have ht':decide (l[i]=s)=true:=decide_eq_true ht.symm;rw [w9,hd,aj1,decide_eq_true ht,Bool.true_or];simp [Iw,hn,hlt,g1,g3,ht'];have ht':decide (l[i]=s)=false:=decide_eq_false λe=>ht e.symm;obtain⟨i',c',x',gg⟩:=ih (i+1) (by omega) (.bool true) (.bool false) N (by omega);refine⟨i',c',x',?_⟩;rw [w9,hd,aj1,decide_eq_false ht,aiG,← gg];simp [Iw,hn,hlt,g1,g3,ht',Y9 (i:=i) (by omega)]
theorem Ky {m:Mem}{v:j3}(l:List By)(hlen:l.length<=1000)(hv:gJ m v (strs l))(s:By)(n fu:Nat)(hfu:1001<=fu):o9 KW fu (n+1) (.func 54) [v,.str s] m=some [⟨.bool (l.any λt=>decide (s=t)),m⟩]:=by obtain⟨i',c',x',g⟩:=YP (m:=m) l (by omega) hv s (o9 KW fu n) fu l.length 0 (by omega) .undef .undef fu (by omega);have g':I4 (λenv m k=>Iw (o9 KW fu n) fu none env m k) fu (Xh (iV 0) v .undef (.str s) .undef (.bool false)) m []=_:=g;rw [Y3] at g';rw [enter (sf:=f54) rfl rfl];cases h:l.any λt=>decide (s=t)<;>rw [h] at g'<;>simp [f54,g']
theorem Tj {m:Mem}{n fu a:Nat}{b2 b6:j3}(s:By)(hs:s.length<=100000)(ha:a<s.length):∀(j i:Nat),a<=i->i+j=a+K6 wz (s.drop a)->∀(c:j3) (N:Nat),j+1<=N->
  I4 (λenv m k=>Iq (o9 KW fu (n+1)) fu none env m k) N (Fg (iV (a:Int)) (.str s) b2 (iV (i:Int)) c .undef .undef .undef .undef .undef .undef (iV 0) (iV 0)) m []=some [⟨.exit 0,(Fg (iV (a:Int)) (.str s) b2 (.int .i64 ((a+K6 wz (s.drop a):Nat):Int)) (.bool false) .undef .undef .undef .undef .undef .undef (iV 0) (iV 0)),m,[],none⟩]:=by
 have hle:=dX wz (s.drop a);rw [abR] at hle;intro j;induction j with
 | zero=>
  intro i hi hi2 c N hN;obtain⟨N,rfl⟩:∃k,N=k+1:=⟨N-1,by omega⟩;obtain rfl:i=a+K6 wz (s.drop a):=by omega
  rw [w9];by_cases hl:a+K6 wz (s.drop a)<s.length;have q:=λx lo ls env hx hl'=>fH (x:=x) (lo:=lo) (ls:=ls) (env:=env) (s:=s) (l:=a+K6 wz (s.drop a)) hx hl' hl;have hb:=qP wz (s.drop a) (by rw [abR];omega);rw [ae0] at hb;obtain⟨i,hI⟩:∃i,i=a+K6 wz (s.drop a):=⟨_,rfl⟩;simp only [← hI] at hb q hl ⊢;have h51:=Px s[i] n fu m;have h52:=Fh s[i] n fu m;simp only [wz,afJ] at hb;rw [hb.1] at h51;rw [hb.2] at h52;have e1:decide ((i:Int)<(s.length:Int))=true:=decide_eq_true (by omega);simp [Iq,e1,hl,q,h51,h52];obtain⟨i,hI⟩:∃i,i=a+K6 wz (s.drop a):=⟨_,rfl⟩;simp only [← hI] at hl ⊢;have e1:decide ((i:Int)<(s.length:Int))=false:=decide_eq_false (by omega);simp [Iq,e1,hl]
 | succ j ih=>
  intro i hi hi2 c N hN;obtain⟨N,rfl⟩:∃k,N=k+1:=⟨N-1,by omega⟩;have hl:i<s.length:=by omega
  have q:=λx lo ls env hx hl'=>fH (x:=x) (lo:=lo) (ls:=ls) (env:=env) (s:=s) (l:=i) hx hl' hl;have e1:decide ((i:Int)<(s.length:Int))=true:=decide_eq_true (by omega);have hb:=pY wz (s.drop a) (i-a) (by rw [abR];omega) (by omega);rw [ae0] at hb;simp only [show a+(i-a)=i from by omega] at hb;have h51:=Px s[i] n fu m;have h52:=Fh s[i] n fu m;have gg:=ih (i+1) (by omega) (by omega) (.bool true) N (by omega);rw [w9,← gg];simp only [wz,afD] at hb;cases hA:oD s[i] with
  | true=>rw [hA] at h51;simp [Iq,e1,hl,q,h51,Y9 (i:=i) (by omega)]
  | false=>rw [hA] at h51;rw [hb.resolve_left (by rw [hA];decide)] at h52;simp [Iq,e1,hl,q,h51,h52,Y9 (i:=i) (by omega)]
theorem Tk {m:Mem}{n fu a:Nat}{b2 b6:j3}(s:By)(hs:s.length<=100000)(ha:a<s.length):∀(j i:Nat),a<=i->i+j=a+K6 T9 (s.drop a)->∀(c:j3) (N:Nat),j+1<=N->
  I4 (λenv m k=>Np (o9 KW fu (n+1)) fu none env m k) N (Fg (iV (a:Int)) (.str s) b2 (iV (i:Int)) .undef .undef b6 c .undef .undef .undef (iV 0) (iV 0)) m []=some [⟨.exit 2,(Fg (iV (a:Int)) (.str s) b2 (.int .i64 ((a+K6 T9 (s.drop a):Nat):Int)) .undef .undef b6 (.bool false) .undef .undef .undef (iV 0) (iV 0)),m,[],none⟩]:=by
 have hle:=dX T9 (s.drop a);rw [abR] at hle;intro j;induction j with
 | zero=>
  intro i hi hi2 c N hN;obtain⟨N,rfl⟩:∃k,N=k+1:=⟨N-1,by omega⟩;obtain rfl:i=a+K6 T9 (s.drop a):=by omega
  rw [w9];by_cases hl:a+K6 T9 (s.drop a)<s.length;have q:=λx lo ls env hx hl'=>fH (x:=x) (lo:=lo) (ls:=ls) (env:=env) (s:=s) (l:=a+K6 T9 (s.drop a)) hx hl' hl;have hb:=qP T9 (s.drop a) (by rw [abR];omega);rw [ae0] at hb;obtain⟨i,hI⟩:∃i,i=a+K6 T9 (s.drop a):=⟨_,rfl⟩;simp only [← hI] at hb q hl ⊢;have h52:=Fh s[i] n fu m;rw [hb] at h52;have e1:decide ((i:Int)<(s.length:Int))=true:=decide_eq_true (by omega);simp [Np,e1,hl,q,h52];obtain⟨i,hI⟩:∃i,i=a+K6 T9 (s.drop a):=⟨_,rfl⟩;simp only [← hI] at hl ⊢;have e1:decide ((i:Int)<(s.length:Int))=false:=decide_eq_false (by omega);simp [Np,e1,hl]
 | succ j ih=>
  intro i hi hi2 c N hN;obtain⟨N,rfl⟩:∃k,N=k+1:=⟨N-1,by omega⟩;have hl:i<s.length:=by omega
  have q:=λx lo ls env hx hl'=>fH (x:=x) (lo:=lo) (ls:=ls) (env:=env) (s:=s) (l:=i) hx hl' hl;have e1:decide ((i:Int)<(s.length:Int))=true:=decide_eq_true (by omega);have hb:=pY T9 (s.drop a) (i-a) (by rw [abR];omega) (by omega);rw [ae0] at hb;simp only [show a+(i-a)=i from by omega] at hb;have h52:=Fh s[i] n fu m;have gg:=ih (i+1) (by omega) (by omega) (.bool true) N (by omega);rw [w9,← gg];rw [hb] at h52;simp [Np,e1,hl,q,h52,Y9 (i:=i) (by omega)]
def oG:List By:=ones.map ([·])
theorem YQ (ls:List j3)(env:T j3)(nid:Nat):F8 1 14 [.str []] [(0,1,D8 (.str [123])),(1,1,D8 (.str [125])),(2,1,D8 (.str [40])),(3,1,D8 (.str [41])),(4,1,D8 (.str [44])),(5,1,D8 (.str [59])),(6,1,D8 (.str [61])),(7,1,D8 (.str [43])),(8,1,D8 (.str [45])),(9,1,D8 (.str [42])),(10,1,D8 (.str [47])),(11,1,D8 (.str [37])),(12,1,D8 (.str [60])),(13,1,D8 (.str [62]))] ls env nid =
  some (.slice nid 0 14 14,some (.cells 1 14 (T.ofList ((strs oG).map ([·]))))):=rfl
theorem Nz (b:UInt8):(oG.any λt=>decide ([b]=t))=ones.contains b:=by rw [oG,List.any_map,aiT];congr 1;funext c;show decide ([b]=[c])=(b==c);rw [aas];simp
theorem aco {m:Mem}(hm:m.Ok)(s:By)(hs:s.length<=100000)(a:Nat)(ha:a<s.length)(n fu:Nat)(hfu:s.length+1010<=fu):
  ∃(l k:Int) (m':Mem),o9 KW fu (n+2) (.func 27) [.str s,iV (a:Int)] m=some [⟨.tuple [iV l,iV k],m'⟩]∧Ext m m'∧
   match jE (s.drop a) with
   | none=>l=0
   | some p=>l=(p.2:Int)∧k=(p.1:Int):=by
 have hdr:s.drop a=s[a]::s.drop (a+1):=Y6 ha;have q0:=λx lo ls env hx hl'=>fH (x:=x) (lo:=lo) (ls:=ls) (env:=env) (s:=s) (l:=a) hx hl' ha;have c51:=Px s[a] n fu m;have c52:=Fh s[a] n fu m;have ht:∀P,(jE (s.drop a)=P)=(jE (s[a]::s.drop (a+1))=P):=λP=>by rw [← hdr]
 by_cases h1:oD s[a]=true;rw [h1] at c51;have hr1:1<=K6 wz (s.drop a):=by rw [hdr,K6,if_pos (by simp [wz,h1])];omega
 have hle:=dX wz (s.drop a);rw [abR] at hle;have g:=Tj (m:=m) (n:=n) (fu:=fu) (b2:=.bool true) (b6:=.undef) s hs ha (K6 wz (s.drop a)) a (J2 _) rfl .undef fu (by omega);have e:iU (((a+K6 wz (s.drop a):Nat):Int)-(a:Int))=((K6 wz (s.drop a):Nat):Int):=by rw [L8 (by omega) (by omega)];omega
 have htk:jE (s.drop a)=if K6 wz (s.drop a)<=16 then some (1,K6 wz (s.drop a)) else none:=by rw [hdr,jE,if_pos h1]
 rw [htk];generalize hR:K6 wz (s.drop a)=R at *;simp only [adW] at g e;by_cases h:R<=16;have e16:decide ((16:Int)<(R:Int))=false:=decide_eq_false (by omega);refine⟨(R:Int),1,m,?_,Ext.refl hm,by rw [if_pos h];exact⟨rfl,rfl⟩⟩;rw [enter (sf:=f27) rfl rfl];simp [f27,q0,c51,g,e,e16,-Int.natCast_add];have e16:decide ((16:Int)<(R:Int))=true:=decide_eq_true (by omega);refine⟨0,0,m,?_,Ext.refl hm,by rw [if_neg h]⟩;rw [enter (sf:=f27) rfl rfl];simp [f27,q0,c51,g,e,e16,-Int.natCast_add];have h1':oD s[a]=false:=by simpa using h1
 rw [h1'] at c51;by_cases h2:T9 s[a]=true;rw [h2] at c52;have hr1:1<=K6 T9 (s.drop a):=by rw [hdr,K6,if_pos h2];omega
 have hle:=dX T9 (s.drop a);rw [abR] at hle;have g:=Tk (m:=m) (n:=n) (fu:=fu) (b2:=.bool false) (b6:=.bool true) s hs ha (K6 T9 (s.drop a)) a (J2 _) rfl .undef fu (by omega);have e:iU (((a+K6 T9 (s.drop a):Nat):Int)-(a:Int))=((K6 T9 (s.drop a):Nat):Int):=by rw [L8 (by omega) (by omega)];omega
 have htk:jE (s.drop a)=if (s[a]=48∧1<K6 T9 (s.drop a))∨9007199254740992<oF ((s.drop a).take (K6 T9 (s.drop a))) then none else some (2,K6 T9 (s.drop a)):=by
  have:jE (s[a]::s.drop (a+1))=if (s[a]=48∧1<K6 T9 (s[a]::s.drop (a+1)))∨9007199254740992<oF ((s[a]::s.drop (a+1)).take (K6 T9 (s[a]::s.drop (a+1)))) then none else some (2,K6 T9 (s[a]::s.drop (a+1))):=by rw [jE,if_neg h1,if_pos h2]
  rwa [← hdr] at this
 have hv:=VQ ((s.drop a).take (K6 T9 (s.drop a))) (by simp;omega) (Kv T9 _) n fu (by simp;omega) m;rw [Kr] at hv;have q2:=λx lo hi ls env hx hl hh=>vW (x:=x) (lo:=lo) (hi:=hi) (ls:=ls) (env:=env) (s:=s) (l:=a) (h:=a+K6 T9 (s.drop a)) hx hl hh (by omega) (by omega);simp only [aej] at q2;have h48:decide ((((s[a]).toNat:Nat):Int)=48)=decide (s[a]=48):=by rw [aas];simp only [decide_eq_true_eq];exact⟨λh=>adE.1 (by simp;omega),λh=>by rw [h];rfl⟩
 rw [htk];generalize hT:(s.drop a).take (K6 T9 (s.drop a))=tx at *;generalize hR:K6 T9 (s.drop a)=R at *;generalize hV:oF tx=Vn at *;simp only [adW] at g e q2;by_cases h3:s[a]=48∧1<R;have e1:decide ((1:Int)<(R:Int))=true:=decide_eq_true (by omega);have h48':(((s[a]).toNat:Nat):Int)=48:=by rw [h3.1];rfl
 refine⟨0,0,m,?_,Ext.refl hm,by rw [if_pos (.inl h3)]⟩;rw [enter (sf:=f27) rfl rfl];rw [h48'] at c51 c52;simp [f27,q0,c51,c52,g,e,e1,h48',-Int.natCast_add];have e3:(decide ((((s[a]).toNat:Nat):Int)=48)&&decide ((1:Int)<(R:Int)))=false:=by
  rw [h48];cases h4:decide (s[a]=48) with
  | false=>rfl
  | true=>have:¬ 1<R:=λh=>h3 ⟨of_decide_eq_true h4,h⟩;rw [decide_eq_false (by omega)];rfl
 by_cases h5:9007199254740992<Vn;have e5:decide ((9007199254740992:Int)<((min Vn 9007199254740993:Nat):Int))=true:=decide_eq_true (by omega);refine⟨0,0,m,?_,Ext.refl hm,by rw [if_pos (.inr h5)]⟩;rw [enter (sf:=f27) rfl rfl];generalize min Vn 9007199254740993=mv at *;cases h4:decide ((((s[a]).toNat:Nat):Int)=48) with
 | false=>simp only [decide_eq_false_iff_not] at h4;simp [f27,q0,c51,c52,g,e,h4,q2,hv,e5,-Int.natCast_add]
 | true=>rw [h4,aax] at e3;simp only [decide_eq_true_eq] at h4;rw [h4] at c51 c52;simp [f27,q0,c51,c52,g,e,h4,e3,q2,hv,e5,-Int.natCast_add]
 have e5:decide ((9007199254740992:Int)<((min Vn 9007199254740993:Nat):Int))=false:=decide_eq_false (by omega);refine⟨(R:Int),2,m,?_,Ext.refl hm,by rw [if_neg (by rintro (h | h);exact h3 h;exact h5 h)];exact⟨rfl,rfl⟩⟩
 rw [enter (sf:=f27) rfl rfl];generalize min Vn 9007199254740993=mv at *;cases h4:decide ((((s[a]).toNat:Nat):Int)=48) with
 | false=>simp only [decide_eq_false_iff_not] at h4;simp [f27,q0,c51,c52,g,e,h4,q2,hv,e5,-Int.natCast_add]
 | true=>rw [h4,aax] at e3;simp only [decide_eq_true_eq] at h4;rw [h4] at c51 c52;simp [f27,q0,c51,c52,g,e,h4,e3,q2,hv,e5,-Int.natCast_add]
 have h2':T9 s[a]=false:=by simpa using h2
 rw [h2'] at c52;have htk:jE (s.drop a)=if qQ ((s.drop a).take 2) then some (3,2) else if ones.contains s[a] then some (3,1) else none:=by
  have:jE (s[a]::s.drop (a+1))=if qQ ((s[a]::s.drop (a+1)).take 2) then some (3,2) else if ones.contains s[a] then some (3,1) else none:=by rw [jE,if_neg h1,if_neg h2]
  rwa [← hdr] at this
 have q1:=λx lo hi ls env hx hl hh=>vW (x:=x) (lo:=lo) (hi:=hi) (ls:=ls) (env:=env) (s:=s) (l:=a) (h:=a+1) hx hl hh (by omega) (by omega);simp only [aej] at q1;have htk1:(s.drop a).take 1=[s[a]]:=by rw [hdr];rfl
 simp only [htk1] at q1;have w1:iU ((a:Int)+1)=((a+1:Nat):Int):=Y9 (by omega);rw [htk];by_cases ha1:a+1<s.length;have w2:iU ((a:Int)+2)=((a+2:Nat):Int):=by rw [L8 (by omega) (by omega)];rfl
 have q2:=λx lo hi ls env hx hl hh=>vW (x:=x) (lo:=lo) (hi:=hi) (ls:=ls) (env:=env) (s:=s) (l:=a) (h:=a+2) hx hl hh (by omega) (by omega);simp only [aej] at q2;have hv4:gJ (ext m [.cells 1 4 (T.ofList ((strs wB).map ([·])))]) (.slice m.nx 0 4 4) (strs wB):=vD hm (strs wB);have g4:=Ky (n:=n) (fu:=fu) wB (by decide) hv4 ((s.drop a).take 2) (by omega);rw [QS] at g4;have e1:decide (((a+1:Nat):Int)<(s.length:Int))=true:=decide_eq_true (by omega);generalize hA1:((a+1:Nat):Int)=A1 at *;generalize hA2:((a+2:Nat):Int)=A2 at *;cases h3:qQ ((s.drop a).take 2) with
 | true=>rw [h3] at g4;refine⟨2,3,ext m [.cells 1 4 (T.ofList ((strs wB).map ([·])))],?_,y9 hm _,by rw [if_pos rfl];exact⟨rfl,rfl⟩⟩;rw [enter (sf:=f27) rfl rfl];simp [f27,q0,c51,c52,w1,w2,e1,q2,bs4,p9,u7,g4]
 | false=>
  rw [h3] at g4;have hv14:gJ (ext m [.cells 1 4 (T.ofList ((strs wB).map ([·]))),.cells 1 14 (T.ofList ((strs oG).map ([·])))]) (.slice (m.nx+1) 0 14 14) (strs oG):=
   vD (m:=m.new (.cells 1 4 (T.ofList ((strs wB).map ([·]))))) (Mem.Ok.new hm _) (strs oG)
  have g14:=Ky (n:=n) (fu:=fu) oG (by decide) hv14 [s[a]] (by omega);rw [Nz] at g14;rw [if_neg (by decide)];cases h4:ones.contains s[a] with
  | true=>rw [h4] at g14;refine⟨1,3,ext m [.cells 1 4 (T.ofList ((strs wB).map ([·]))),.cells 1 14 (T.ofList ((strs oG).map ([·])))],?_,y9 hm _,by rw [if_pos rfl];exact⟨rfl,rfl⟩⟩;rw [enter (sf:=f27) rfl rfl];simp [f27,q0,c51,c52,w1,w2,e1,q1,q2,bs4,YQ,p9,u7,g4,g14]
  | false=>rw [h4] at g14;refine⟨0,0,ext m [.cells 1 4 (T.ofList ((strs wB).map ([·]))),.cells 1 14 (T.ofList ((strs oG).map ([·])))],?_,y9 hm _,by rw [if_neg (by decide)]⟩;rw [enter (sf:=f27) rfl rfl];simp [f27,q0,c51,c52,w1,w2,e1,q1,q2,bs4,YQ,p9,u7,g4,g14]
 have e1:decide (((a+1:Nat):Int)<(s.length:Int))=false:=decide_eq_false (by omega);have h3:qQ ((s.drop a).take 2)=false:=by
  have hl1:((s.drop a).take 2).length=1:=by simp;omega
  obtain⟨x,hx⟩:=List.length_eq_one_iff.1 hl1;rw [hx];simp [qQ]
 have hv14:gJ (ext m [.cells 1 14 (T.ofList ((strs oG).map ([·])))]) (.slice m.nx 0 14 14) (strs oG):=vD hm (strs oG);have g14:=Ky (n:=n) (fu:=fu) oG (by decide) hv14 [s[a]] (by omega);rw [Nz] at g14;rw [h3,if_neg (by decide)];generalize hA1:((a+1:Nat):Int)=A1 at *;cases h4:ones.contains s[a] with
 | true=>rw [h4] at g14;refine⟨1,3,ext m [.cells 1 14 (T.ofList ((strs oG).map ([·])))],?_,y9 hm _,by rw [if_pos rfl];exact⟨rfl,rfl⟩⟩;rw [enter (sf:=f27) rfl rfl];simp [f27,q0,c51,c52,w1,e1,q1,YQ,p9,u7,g14]
 | false=>rw [h4] at g14;refine⟨0,0,ext m [.cells 1 14 (T.ofList ((strs oG).map ([·])))],?_,y9 hm _,by rw [if_neg (by decide)]⟩;rw [enter (sf:=f27) rfl rfl];simp [f27,q0,c51,c52,w1,e1,q1,YQ,p9,u7,g14]
theorem ags (b:UInt8):(!decide (((b.toNat:Nat):Int)=10))=(b != 10):=by rw [aas];simp only [aiH,decide_eq_false_iff_not,bne_iff_ne,ne_eq];exact not_congr ⟨λh=>adE.1 (by simp;omega),λh=>by rw [h];rfl⟩
theorem VR {m:Mem}{p n fu a:Nat}{e4 e5 e6 e8 e9 e10 e11:j3}(s:By)(hs:s.length<=100000)(ha:a<=s.length):∀(j i:Nat),a<=i->i+j=a+K6 (λc=>c != 10) (s.drop a)->∀(c:j3) (N:Nat),j+1<=N->
  I4 (λenv m k=>VL (o9 KW fu (n+2)) fu none env m k) N (xX (.str s) (.bool false) (.ptr p 0) (iV (i:Int)) e4 e5 e6 c e8 e9 e10 e11) m []=some [⟨.exit 2,(xX (.str s) (.bool false) (.ptr p 0) (.int .i64 ((a+K6 (λc=>c != 10) (s.drop a):Nat):Int)) e4 e5 e6 (.bool false) e8 e9 e10 e11),m,[],none⟩]:=by
 have hle:=dX (λc=>c != 10) (s.drop a);rw [abR] at hle;intro j;induction j with
 | zero=>
  intro i hi hi2 c N hN;obtain⟨N,rfl⟩:∃k,N=k+1:=⟨N-1,by omega⟩;rw [w9];have hI:i=a+K6 (λc=>c != 10) (s.drop a):=by omega
  rw [← hI];by_cases hl:i<s.length;have q:=λx lo ls env hx hl'=>fH (x:=x) (lo:=lo) (ls:=ls) (env:=env) (s:=s) (l:=i) hx hl' hl;have hb:=qP (λc=>c != 10) (s.drop a) (by rw [abR];omega);rw [ae0] at hb;simp only [← hI] at hb;have e1:decide ((i:Int)<(s.length:Int))=true:=decide_eq_true (by omega);have e2:=ags s[i];rw [hb] at e2;have e3:(((s[i]).toNat:Nat):Int)=10:=by simpa using e2
  simp [VL,e1,hl,q,e3];have e1:decide ((i:Int)<(s.length:Int))=false:=decide_eq_false (by omega);simp [VL,e1,hl]
 | succ j ih=>
  intro i hi hi2 c N hN;obtain⟨N,rfl⟩:∃k,N=k+1:=⟨N-1,by omega⟩;have hl:i<s.length:=by omega
  have q:=λx lo ls env hx hl'=>fH (x:=x) (lo:=lo) (ls:=ls) (env:=env) (s:=s) (l:=i) hx hl' hl;have e1:decide ((i:Int)<(s.length:Int))=true:=decide_eq_true (by omega);have hb:=pY (λc=>c != 10) (s.drop a) (i-a) (by rw [abR];omega) (by omega);rw [ae0] at hb;simp only [show a+(i-a)=i from by omega] at hb;have e2:=ags s[i];rw [hb] at e2;have e3:¬ (((s[i]).toNat:Nat):Int)=10:=by simpa using e2
  have gg:=ih (i+1) (by omega) (by omega) (.bool true) N (by omega);rw [w9,← gg];simp [VL,e1,hl,q,e3,Y9 (i:=i) (by omega)]
def iZ (s:By)(p:Nat)(acc:List Tok)(M:Mem)(r:Option (List Out))(l:Sum Nat (List Tok)):Prop:=
 (∃(ts:List Tok) (e3 e4 e5 e6 e7 e8 e9 out e11:j3) (M':Mem),l=.inr ts∧r=some [⟨.exit 0,(xX (.str s) (.bool false) (.ptr p 0) e3 e4 e5 e6 e7 e8 e9 out e11),M',[],none⟩]∧Fr (p+1) p M M'∧M'.get p=some (j4 [nS,iV 0,iV 0])∧aM (p+1) 2 M' out (H9 (acc++ts))∧(acc++ts).length<=s.length)∨
 (∃(j:Nat) (e3 e4 e5 e6 e7 e8 e9 out e11:j3) (M':Mem),l=.inl j∧r=some [⟨.ret,(xX (.str s) (.bool false) (.ptr p 0) e3 e4 e5 e6 e7 e8 e9 out e11),M',[],none⟩]∧Fr (p+1) p M M'∧M'.get p=some (j4 [nS,iV 7,iV (j:Int)]))
theorem iZ.fr {s:By}{p:Nat}{acc:List Tok}{M M1:Mem}{r:Option (List Out)}{l:Sum Nat (List Tok)}(h:iZ s p acc M1 r l)(hf:Fr (p+1) p M M1):iZ s p acc M r l:=by rcases h with⟨ts,e3,e4,e5,e6,e7,e8,e9,out,e11,M',h1,h2,h3,h4⟩ | ⟨j,e3,e4,e5,e6,e7,e8,e9,out,e11,M',h1,h2,h3,h4⟩;exact .inl ⟨ts,e3,e4,e5,e6,e7,e8,e9,out,e11,M',h1,h2,hf.trans h3,h4⟩;exact .inr ⟨j,e3,e4,e5,e6,e7,e8,e9,out,e11,M',h1,h2,hf.trans h3,h4⟩
theorem iZ.tok {s:By}{p k l i:Nat}{b:UInt8}{t:By}{acc:List Tok}{M:Mem}{r:Option (List Out)}(hb:¬(b=32∨b=10))(h1:b≠35)(ht:jE (b::t)=some (k,l))
  (h:iZ s p (acc ++ [(k,(b::t).take l)]) M r (lV (i+l) ((b::t).drop l))):iZ s p acc M r (lV i (b::t)):=by
 rw [Nw hb h1 ht];rcases h with⟨ts,e3,e4,e5,e6,e7,e8,e9,out,e11,M',h1,h2,h3,h4,h5⟩ | ⟨j,e3,e4,e5,e6,e7,e8,e9,out,e11,M',h1,h2,h3,h4⟩;rw [h1];exact .inl ⟨_,e3,e4,e5,e6,e7,e8,e9,out,e11,M',rfl,h2,h3,h4,by simpa using h5⟩;rw [h1];exact .inr ⟨j,e3,e4,e5,e6,e7,e8,e9,out,e11,M',rfl,h2,h3,h4⟩
theorem acp {p n fu:Nat}(s:By)(hs:s.length<=10000)(hfu:s.length+1010<=fu):∀(r i:Nat),s.length-i<=r->i<=s.length->
  ∀(acc:List Tok) (e4 e5 e6 e7 e8 e9 out e11:j3) (M:Mem) (N:Nat),M.Ok->M.lim<=p->p<M.nx->M.get p=some (j4 [nS,iV 0,iV 0])->aM (p+1) 2 M out (H9 acc)->acc.length<=i->r+1<=N->
  iZ s p acc M (I4 (λenv m k=>EX (o9 KW fu (n+2)) fu none env m k) N (xX (.str s) (.bool false) (.ptr p 0) (iV (i:Int)) e4 e5 e6 e7 e8 e9 out e11) M []) (lV i (s.drop i)):=by
 intro r;induction r with
 | zero=>
  intro i hr hle acc e4 e5 e6 e7 e8 e9 out e11 M N hM hl hp hg ho hac hN;obtain⟨N,rfl⟩:∃k,N=k+1:=⟨N-1,by omega⟩;obtain rfl:i=s.length:=by omega
  rw [abT (J2 _),zG];refine .inl ⟨[],iV (s.length:Int),.bool false,e5,e6,e7,e8,e9,out,e11,M,rfl,?_,Fr.refl hM,hg,by simpa using ho,by simpa using hac⟩;rw [w9];simp [EX]
 | succ r ih=>
  intro i hr hle acc e4 e5 e6 e7 e8 e9 out e11 M N hM hl hp hg ho hac hN;obtain⟨N,rfl⟩:∃k,N=k+1:=⟨N-1,by omega⟩;by_cases hlt:i<s.length;have hdr:s.drop i=s[i]::s.drop (i+1):=Y6 hlt;have q0:=λx lo ls env hx hl'=>fH (x:=x) (lo:=lo) (ls:=ls) (env:=env) (s:=s) (l:=i) hx hl' hlt;have el:decide ((i:Int)<(s.length:Int))=true:=decide_eq_true (by omega);have cv:∀(k:Nat) (c:UInt8),c.toNat=k->(((((s[i]).toNat:Nat):Int)=(k:Int))↔s[i]=c):=λk c hc=>⟨λh=>adE.1 (by omega),λh=>by rw [h];omega⟩
  have c32:(((s[i]).toNat:Nat):Int)=32↔s[i]=32:=cv 32 32 rfl;have c10:(((s[i]).toNat:Nat):Int)=10↔s[i]=10:=cv 10 10 rfl;have c35:(((s[i]).toNat:Nat):Int)=35↔s[i]=35:=cv 35 35 rfl;rw [hdr];by_cases hbl:s[i]=32∨s[i]=10;rw [Fb hbl];have g:=ih (i+1) (by omega) (by omega) acc (.bool true) (.bool true) e6 e7 e8 e9 out e11 M N hM hl hp hg ho (by omega) (by omega);rw [w9];refine Eq.mpr (congrArg (λr=>iZ s p _ _ r _) ?_) g;rcases hbl with h | h;have e1:=c32.2 h;simp [EX,el,hlt,q0,e1,Y9 (i:=i) (by omega)];have e1:=c10.2 h;have e2:¬ (((s[i]).toNat:Nat):Int)=32:=by omega
  simp [EX,el,hlt,q0,e1,e2,Y9 (i:=i) (by omega)];have n32:¬ (((s[i]).toNat:Nat):Int)=32:=λh=>hbl (.inl (c32.1 h));have n10:¬ (((s[i]).toNat:Nat):Int)=10:=λh=>hbl (.inr (c10.1 h));by_cases h35:s[i]=35;have hc:=c35.2 h35;have hrl:=dX (λc=>c != 10) (s.drop i);rw [abR] at hrl;have hr1:1<=K6 (λc=>c != 10) (s.drop i):=by rw [hdr,K6,if_pos (by rw [h35];decide)];omega
  have g0:=VR (m:=M) (p:=p) (n:=n) (fu:=fu) (a:=i) (e4:=.bool true) (e5:=.bool false) (e6:=.bool true) (e8:=e8) (e9:=e9) (e10:=out) (e11:=e11) s (by omega) hle (K6 (λc=>c != 10) (s.drop i)) i (J2 _) rfl e7 fu (by omega);have g:=ih (i+K6 (λc=>c != 10) (s.drop i)) (by omega) (by omega) acc (.bool true) (.bool false) (.bool true) (.bool false) e8 e9 out e11 M N hM hl hp hg ho (by omega) (by omega);have hlx:lV i (s[i]::s.drop (i+1))=lV (i+K6 (λc=>c != 10) (s.drop i)) (s.drop (i+K6 (λc=>c != 10) (s.drop i))):=by
   have:s.drop i=35::s.drop (i+1):=by rw [hdr,h35]
   rw [h35,IE,← this,Z6]
  rw [hlx,w9];refine Eq.mpr (congrArg (λr=>iZ s p _ _ r _) ?_) g;simp [EX,el,hlt,q0,hc,g0,-Int.natCast_add];have n35:¬ (((s[i]).toNat:Nat):Int)=35:=λh=>h35 (c35.1 h);obtain⟨l,k,M2,ga,E2,hk⟩:=aco hM s (by omega) i hlt n fu hfu;have hm:=E2.ok;have hl2:M2.lim<=p:=by rw [E2.lim];exact hl
  have hg2:M2.get p=some (j4 [nS,iV 0,iV 0]):=(E2.old p hp).trans hg;have hp2:p<M2.nx:=Xb hp E2.nx;have hf2:Fr (p+1) p M M2:=E2.fr (by omega);rw [hdr] at hk;cases htk:jE (s[i]::s.drop (i+1)) with
  | none=>rw [htk] at hk;obtain rfl:l=0:=hk;rw [Nv hbl h35 htk];have st:=sB hl2;refine .inr ⟨i,iV (i:Int),.bool true,.bool false,.bool false,e7,iV 0,.bool true,out,iV k,M2.set p (j4 [nS,iV 7,iV (i:Int)]),rfl,?_,hf2.trans ⟨Mem.Ok.set hm hp2 _,by simp,by simp,λj hj hn=>p8 hm _ hp2 hn⟩,y8 hm _ hp2 rfl⟩;rw [w9];simp [EX,el,hlt,q0,n32,n10,n35,ga,st,hg2,K5]
  | some q=>
   obtain⟨k',l'⟩:=q;rw [htk] at hk;obtain⟨rfl,rfl⟩:=hk;obtain⟨hl1',hl2',hk1,hk2,hasc⟩:=vB htk;have hlen:l'<=s.length-i:=by simpa [← hdr] using hl2'
   have qs:=λx lo hi ls env hx hl hh=>vW (x:=x) (lo:=lo) (hi:=hi) (ls:=ls) (env:=env) (s:=s) (l:=i) (h:=i+l') hx hl hh (by omega) (by omega);simp only [aej] at qs;have e1:iU ((i:Int)+(l':Int))=((i+l':Nat):Int):=by rw [L8 (by omega) (by omega)];omega
   have n0:¬ l'=0:=by omega
   have hx:V7 (M2.new (j4 (eO (k',(s.drop i).take l')))) 2 (.slice M2.nx 0 1 1) [eO (k',(s.drop i).take l')]:=oz hm (eO (k',(s.drop i).take l')) (by simp [eO]);have ho2:=(ho.ext E2).ext ((Ext.refl hm).new (j4 (eO (k',(s.drop i).take l'))));obtain⟨v5,M5,gb,ho5,F5,old5⟩:=Kh (lo:=p+1) (rs:=2) (bytes:=24) (r:=eO (k',(s.drop i).take l')) (Mem.Ok.new hm _) (by simp;omega) (by simp;omega) (by omega) ho2 hx (by simp [eO]) (by simp [eO,K5]) (by simp [H9];omega) ⟨by omega,by omega⟩;have po:=Ch ho5.slice;have hg5:M5.get p=some (j4 [nS,iV 0,iV 0]):=by rw [old5 p (by simp;omega) (λo n e hv=>by have:=(ho.lt hv).1;omega),rX hm _ (by omega)];exact hg2
   have FF:Fr (p+1) p M M5:=hf2.trans ⟨F5.ok,Xl (by simp) F5.nx,F5.lim,λj hj hn=>by rw [F5.old j hj (by omega),rX hm _ (by omega)]⟩;have g:=ih (i+l') (by omega) (by omega) (acc ++ [(k',(s.drop i).take l')]) (.bool true) (.bool false) (.bool false) e7 (iV (l':Int)) (.bool false) v5 (iV (k':Int)) M5 N F5.ok (by rw [FF.lim];exact hl) (Xb hp FF.nx) hg5 (by rw [BO];exact ho5) (by simp;omega) (by omega);refine iZ.tok hbl h35 htk ?_;rw [show (s[i]::s.drop (i+1)).drop l'=s.drop (i+l') from by rw [← hdr,Z6],← hdr];refine iZ.fr ?_ FF;rw [w9];refine Eq.mpr (congrArg (λr=>iZ s p _ _ r _) ?_) g;have hbs:∀z ps ls env nid,List.length z=2->F8 2 1 z ps ls env nid=ob (lay ps ls env z) λcells=>if cells.length=2 then some (.slice nid 0 1 1,some (j4 cells)) else none:=λz ps ls env nid h=>gX 2 z ps ls env nid h
   generalize (s.drop i).take l'=tx at *;simp only [eO] at gb;simp [EX,el,hlt,q0,n32,n10,n35,ga,n0,e1,qs,K5,hbs,gb,po,-Int.natCast_add]
  obtain rfl:i=s.length:=by omega
  rw [abT (J2 _),zG];refine .inl ⟨[],iV (s.length:Int),.bool false,e5,e6,e7,e8,e9,out,e11,M,rfl,?_,Fr.refl hM,hg,by simpa using ho,by simpa using hac⟩;rw [w9];simp [EX]
@[simp] theorem agt (k:IntKind)(n:Int):K5 (.int k n)=true:=_root_.id rfl
@[simp] theorem agu (s:By):K5 (.str s)=true:=_root_.id rfl
@[simp] theorem aee (b:Bool):K5 (.bool b)=true:=_root_.id rfl
def xY (m m':Mem)(s:By)(v:j3)(e a:Int):Prop:=match lV 0 s with
 | .inr ts=>aM m.nx 2 m' v (H9 ts)∧ts.length<=s.length∧e=0∧a=-1
 | .inl j=>v=nS∧e=7∧a=(j:Int)
theorem agv {m:Mem}(hm:m.Ok)(hl:m.lim<=m.nx)(s:By)(hs:s.length<=8000)(n fu:Nat)(hfu:s.length+1010<=fu):
  ∃(v:j3) (e a:Int) (m':Mem),o9 KW fu (n+3) (.func 9) [.str s] m=some [⟨.agg [v,iV e,iV a],m'⟩]∧Ext m m'∧xY m m' s v e a:=by
 have hM:(m.new (j4 [nS,iV 0,iV 0])).Ok:=Mem.Ok.new hm _;have g:=acp (p:=m.nx) (n:=n) (fu:=fu) s (by omega) hfu s.length 0 (by omega) (by omega) [] .undef .undef .undef .undef .undef .undef nS .undef (m.new (j4 [nS,iV 0,iV 0])) fu hM (by simpa using hl) (by simp) (zn hm _ rfl)
  (aM.nil _ _ _) (by simp) (by omega)
 have e1:decide ((8000:Int)<(s.length:Int))=false:=decide_eq_false (by omega);have hE:∀M',Fr (m.nx+1) m.nx (m.new (j4 [nS,iV 0,iV 0])) M'->Ext m M':=λM' F=>by refine⟨F.ok,Xl (by simp) F.nx,F.lim,λi hi=>?_⟩;rw [F.old i (by omega) (by omega),rX hm _ (by omega)]
 rw [Y3] at g;unfold xY;rcases g with⟨ts,e3,e4,e5,e6,e7,e8,e9,out,e11,M',h1,h2,h3,h4,h5,h6⟩ | ⟨j,e3,e4,e5,e6,e7,e8,e9,out,e11,M',h1,h2,h3,h4⟩;have g':I4 (λenv m k=>EX (o9 KW fu (n+2)) fu none env m k) fu (xX (.str s) (.bool false) (.ptr m.nx 0) (iV 0) .undef .undef .undef .undef .undef .undef nS .undef) (m.new (j4 [nS,iV 0,iV 0])) []=_:=h2;rw [aec] at h5 h6;have hl':M'.lim<=m.nx:=by rw [h3.lim];simpa using hl
 have hp':m.nx<M'.nx:=Xb (by simp) h3.nx;have st:=sB hl';have gs:∀B,(M'.set m.nx B).get m.nx=some B:=λB=>y8 h3.ok _ hp' rfl;have hoc:=h5.slice.cells;have ho1:=h5.slice.K5;refine⟨out,0,-1,M'.set m.nx (j4 [out,iV 0,iV (-1)]),?_,(hE M' h3).set hp' (J2 _) _,?_⟩;rw [enter (sf:=f9) rfl rfl];simp [f9,e1,g',st,h4,hoc,ho1,gs];rw [h1];exact⟨(h5.keep (by simp) λi h1 h2=>p8 h3.ok _ hp' (by omega)).down (by omega),h6,rfl,rfl⟩;have g':I4 (λenv m k=>EX (o9 KW fu (n+2)) fu none env m k) fu (xX (.str s) (.bool false) (.ptr m.nx 0) (iV 0) .undef .undef .undef .undef .undef .undef nS .undef) (m.new (j4 [nS,iV 0,iV 0])) []=_:=h2;refine⟨nS,7,j,M',?_,hE M' h3,?_⟩;rw [enter (sf:=f9) rfl rfl];simp [f9,e1,g',h4];rw [h1];exact⟨rfl,rfl,rfl⟩
@[simp] theorem amP:FI .s=eqStr:=_root_.id rfl
theorem xY.same {m m1 m2 m3:Mem}{s:By}{v1 v2:j3}{e1 a1 e2 a2:Int}(h1:xY m m1 s v1 e1 a1)(h2:xY m2 m3 s v2 e2 a2):e1=e2∧a1=a2∧∃ts:List Tok,ts.length<=s.length∧V7 m1 2 v1 (H9 ts)∧V7 m3 2 v2 (H9 ts):=by
 unfold xY at h1 h2;cases h:lV 0 s with
 | inr ts=>rw [h] at h1 h2;obtain⟨x1,x2,rfl,rfl⟩:=h1;obtain⟨y1,y2,rfl,rfl⟩:=h2;exact⟨rfl,rfl,ts,x2,x1.slice,y1.slice⟩
 | inl j=>rw [h] at h1 h2;obtain⟨rfl,rfl,rfl⟩:=h1;obtain⟨rfl,rfl,rfl⟩:=h2;exact⟨rfl,rfl,[],by simp,.inl ⟨rfl,rfl⟩,.inl ⟨rfl,rfl⟩⟩
end
end Go.Proofs.YteecnooaopfkeaaGreatDoor.TT
