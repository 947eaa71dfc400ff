/- Lexing as a plain law, and the lexer of the program, walked; conditions: the memory holds what the arguments say. -/
import Derived.Test.YteecnooaopfkeaaGreatDoorLB4
import GoSem.Core.Utf8
import Derived.Lib.AtoiAll
set_option linter.unusedSimpArgs false
set_option linter.unusedVariables false
namespace Go.Proofs.YteecnooaopfkeaaGreatDoor.TT
open Go
noncomputable section
abbrev By:=List UInt8
def Cy (b:UInt8):Bool:=decide (97≤b.toNat)&&decide (b.toNat≤122)
def T9 (b:UInt8):Bool:=decide (48≤b.toNat)&&decide (b.toNat≤57)
def ldB (b:UInt8):Bool:=Cy b||T9 b
def H8 (p:UInt8→Bool):By→Nat
 | []=>0
 | b::s=>if p b then H8 p s+1 else 0
theorem X7 (p:UInt8→Bool):∀s:By,H8 p s≤s.length
 | []=>Nat.le_refl _
 | b::s=>by
  rw [H8];split
  ·simpa using X7 p s
  ·simp
theorem jC (p:UInt8→Bool):∀(s:By) (i:Nat) (h:i<s.length),i<H8 p s→p s[i]=true
 | b::s,0,h,hi=>by
  rw [H8] at hi;split at hi
  ·assumption
  ·omega
 | b::s,i+1,h,hi=>by
  rw [H8] at hi;split at hi
  ·exact jC p s i (by simpa using h) (by omega)
  ·omega
theorem jV (p:UInt8→Bool):∀(s:By) (h:H8 p s<s.length),p s[H8 p s]=false
 | b::s,h=>by
  by_cases hb:p b=true
  ·have e:H8 p (b::s)=H8 p s+1:=by rw [H8,if_pos hb]
   have:=jV p s (by rw [e] at h;simpa using h)
   simp only [e,List.getElem_cons_succ];exact this
  ·have e:H8 p (b::s)=0:=by rw [H8,if_neg hb]
   simp only [e,List.getElem_cons_zero];simpa using hb
def Es (s:By):Nat:=s.foldl (fun n b=>10*n+(b.toNat-48)) 0
def zu (s:By):Nat:=s.foldl (fun n b=>min (10*n+(b.toNat-48)) 9007199254740993) 0
theorem He (s:By)(b:UInt8):zu (s ++ [b])=min (10*zu s+(b.toNat-48)) 9007199254740993:=by simp [zu]
theorem Hf (s:By):zu s=min (Es s) 9007199254740993:=by
 have:∀(s:By) (a b:Nat),a=min b 9007199254740993→s.foldl (fun n b=>min (10*n+(b.toNat-48)) 9007199254740993) a=min (s.foldl (fun n b=>10*n+(b.toNat-48)) b) 9007199254740993:=by
  intro s
  induction s with
  | nil=>intro a b h;simpa using h
  | cons c s ih=>
   intro a b h
   rw [List.foldl_cons,List.foldl_cons]
   refine ih _ _ ?_
   rw [h]
   omega
 exact this s 0 0 (by omega)
theorem MX (s:By):zu s≤9007199254740993:=by rw [Hf];omega
def ow (s:By):Bool:=decide (s=[60,61])||decide (s=[62,61])||decide (s=[61,61])||decide (s=[33,61])
def ones:By:=[123,125,40,41,44,59,61,43,45,42,47,37,60,62]
def nu (s:By):Option (Nat×Nat):=match s with
 | []=>none
 | b :: _=>
  if Cy b then (if H8 ldB s≤16 then some (1,H8 ldB s) else none)
  else if T9 b then (if (b=48∧1<H8 T9 s)∨9007199254740992<Es (s.take (H8 T9 s)) then none else some (2,H8 T9 s))
  else if ow (s.take 2) then some (3,2)
  else if ones.contains b then some (3,1) else none
abbrev Tok:=Nat×By
def zL:Nat→Nat→By→Sum Nat (List Tok)
 | 0,_,_=>.inr []
 | _+1,_,[]=>.inr []
 | n+1,i,b::t=>
  if b=32∨b=10 then zL n (i+1) t
  else if b=35 then zL n (i+H8 (fun c=>c != 10) (b::t)) ((b::t).drop (H8 (fun c=>c != 10) (b::t)))
  else match nu (b::t) with
   | none=>.inl i
   | some (k,l)=>match zL n (i+l) ((b::t).drop l) with
    | .inl j=>.inl j
    | .inr ts=>.inr ((k,(b::t).take l)::ts)
theorem qw {s:By}{k l:Nat}(h:nu s=some (k,l)):1≤l∧l≤s.length∧1≤k∧k≤3∧∀i (hi:i<s.length),i<l→(s[i]).toNat<128:=by
 match s with
 | []=>cases h
 | b::t=>
  rw [nu] at h
  by_cases h1:Cy b=true
  ·rw [if_pos h1] at h
   split at h<;>cases h
   refine⟨?_,X7 _ _,by omega,by omega,fun i hi hl=>?_⟩
   ·rw [H8,if_pos (by simp [ldB,h1])];omega
   ·have:=jC _ _ i hi hl
    simp only [ldB,Cy,T9,Bool.or_eq_true,Bool.and_eq_true,decide_eq_true_eq] at this
    omega
  ·rw [if_neg h1] at h
   by_cases h2:T9 b=true
   ·rw [if_pos h2] at h
    split at h<;>cases h
    refine⟨?_,X7 _ _,by omega,by omega,fun i hi hl=>?_⟩
    ·rw [H8,if_pos h2];omega
    ·have:=jC _ _ i hi hl
     simp only [T9,Bool.and_eq_true,decide_eq_true_eq] at this
     omega
   ·rw [if_neg h2] at h
    by_cases h3:ow ((b::t).take 2)=true
    ·rw [if_pos h3] at h;cases h
     match t,h3 with
     | c::t,h3=>
      refine⟨by omega,by simp,by omega,by omega,fun i hi hl=>?_⟩
      simp only [ow,List.take_succ_cons,List.take_zero,Bool.or_eq_true,decide_eq_true_eq,List.cons.injEq,and_true] at h3
      match i,hl with
      | 0,_=>show b.toNat<128;rcases h3 with ((⟨rfl,_⟩ | ⟨rfl,_⟩) | ⟨rfl,_⟩) | ⟨rfl,_⟩<;>decide
      | 1,_=>show c.toNat<128;rcases h3 with ((⟨_,rfl⟩ | ⟨_,rfl⟩) | ⟨_,rfl⟩) | ⟨_,rfl⟩<;>decide
     | [],h3=>simp [ow] at h3
    ·rw [if_neg h3] at h
     by_cases h4:ones.contains b=true
     ·rw [if_pos h4] at h;cases h
      refine⟨by omega,by simp,by omega,by omega,fun i hi hl=>?_⟩
      obtain rfl:i=0:=by omega
      show b.toNat<128
      simp only [ones,List.contains_eq_mem,List.mem_cons,List.not_mem_nil,or_false,decide_eq_true_eq] at h4
      rcases h4 with rfl | rfl | rfl | rfl | rfl | rfl | rfl | rfl | rfl | rfl | rfl | rfl | rfl | rfl<;>decide
     ·rw [if_neg h4] at h;cases h
theorem jD:∀(n i:Nat) (s:By) (m:Nat),s.length≤n→s.length≤m→zL n i s=zL m i s
 | 0,i,s,0,h,h'=>rfl
 | 0,i,s,m+1,h,h'=>by
  obtain rfl:=List.length_eq_zero_iff.1 (Nat.le_zero.1 h)
  rfl
 | n+1,i,s,0,h,h'=>by
  obtain rfl:=List.length_eq_zero_iff.1 (Nat.le_zero.1 h')
  rfl
 | n+1,i,[],m+1,h,h'=>rfl
 | n+1,i,b::t,m+1,h,h'=>by
  simp only [List.length_cons] at h h'
  rw [zL,zL]
  split
  ·exact jD n _ t m (by omega) (by omega)
  ·split
   ·rename_i hb
    have hr:1≤H8 (fun c=>c != 10) (b::t):=by
     rw [H8,if_pos (by rw [hb];decide)];omega
    exact jD n _ _ m (by simp;omega) (by simp;omega)
   ·cases ht:nu (b::t) with
    | none=>rfl
    | some p=>
     obtain⟨k,l⟩:=p
     have:=(qw ht).1
     simp only
     rw [jD n (i+l) ((b::t).drop l) m (by simp;omega) (by simp;omega)]
def tT (i:Nat)(s:By):Sum Nat (List Tok):=zL s.length i s
theorem qx (i:Nat):tT i []=.inr []:=rfl
theorem vo {i:Nat}{b:UInt8}{t:By}(h:b=32∨b=10):tT i (b::t)=tT (i+1) t:=by
 show zL (t.length+1) i (b::t)=_
 rw [zL,if_pos h];rfl
theorem zw {i:Nat}{t:By}:tT i (35::t)=tT (i+H8 (fun c=>c != 10) (35::t)) ((35::t).drop (H8 (fun c=>c != 10) (35::t))):=by
 show zL (t.length+1) i (35::t)=_
 rw [zL,if_neg (by decide),if_pos rfl]
 have hr:1≤H8 (fun c=>c != 10) (35::t):=by
  rw [H8,if_pos (by decide)];omega
 exact jD _ _ _ _ (by simp;omega) (Nat.le_refl _)
theorem Cz {i:Nat}{b:UInt8}{t:By}(h:¬(b=32∨b=10))(h1:b≠35)(ht:nu (b::t)=none):tT i (b::t)=.inl i:=by
 show zL (t.length+1) i (b::t)=_
 rw [zL,if_neg h,if_neg h1,ht]
theorem CB {i k l:Nat}{b:UInt8}{t:By}(h:¬(b=32∨b=10))(h1:b≠35)(ht:nu (b::t)=some (k,l)):tT i (b::t)=match tT (i+l) ((b::t).drop l) with
  | .inl j=>.inl j
  | .inr ts=>.inr ((k,(b::t).take l)::ts):=by
 show zL (t.length+1) i (b::t)=_
 have:=(qw ht).1
 rw [zL,if_neg h,if_neg h1,ht]
 simp only
 rw [jD t.length (i+l) ((b::t).drop l) ((b::t).drop l).length (by simp;omega) (Nat.le_refl _)]
 rfl
theorem zx (s:By)(i:Nat)(h:i<s.length):((s[i]).toNat<128∧Utf8.decode ⟨s.toArray⟩ i=((s[i]).toNat,1))∨
  (128≤(s[i]).toNat∧128≤(Utf8.decode ⟨s.toArray⟩ i).1∧(Utf8.decode ⟨s.toArray⟩ i).1<2147483648∧1≤(Utf8.decode ⟨s.toArray⟩ i).2∧i+(Utf8.decode ⟨s.toArray⟩ i).2≤s.length∧
   ∀j (hj:j<s.length),i≤j→j<i+(Utf8.decode ⟨s.toArray⟩ i).2→128≤(s[j]).toNat):=by
 have g:∀k (hk:i+k<s.length),(ByteArray.get! ⟨s.toArray⟩ (i+k)).toNat=(s[i+k]).toNat:=fun k hk=>by
  show ((s.toArray)[i+k]!).toNat=_
  rw [getElem!_pos s.toArray (i+k) (by simpa using hk)];simp
 have g0:=g 0 (by omega)
 simp only [Nat.add_zero] at g0
 have c:∀k,(decide (i+k<ByteArray.size ⟨s.toArray⟩)&&(ByteArray.get! ⟨s.toArray⟩ (i+k)).toNat / 64==2)=true→∃hk:i+k<s.length,(s[i+k]).toNat / 64=2:=fun k hk=>by
  simp only [Bool.and_eq_true,decide_eq_true_eq,beq_iff_eq] at hk
  have h1:i+k<s.length:=by simpa [ByteArray.size] using hk.1
  exact⟨h1,by rw [← g k h1];exact hk.2⟩
 have b0:=UInt8.toNat_lt s[i]
 unfold Utf8.decode
 simp only [Nat.add_zero,g0]
 by_cases h0:(s[i]).toNat<128
 ·left;exact⟨h0,by rw [if_pos h0]⟩
 ·right
  rw [if_neg h0]
  have one:∀j (hj:j<s.length),i≤j→j<i+1→128≤(s[j]).toNat:=fun j hj h1 h2=>by
   obtain rfl:j=i:=by omega
   omega
  have er:∀{p:Nat×Nat},p=(Utf8.runeError,1)→(128≤p.1∧p.1<2147483648∧1≤p.2∧i+p.2≤s.length∧∀j (hj:j<s.length),i≤j→j<i+p.2→128≤(s[j]).toNat):=fun h=>by
   subst h
   exact⟨by decide,by decide,by decide,by show i+1≤_;omega,one⟩
  refine⟨by omega,?_⟩
  split
  ·rename_i h1
   rw [Bool.and_eq_true] at h1
   obtain⟨k1,e1⟩:=c 1 h1.2
   split
   ·rename_i h2
    refine⟨h2,?_,(by show 1≤2;omega),by show i+2≤_;omega,fun j hj q1 q2=>?_⟩
    ·show _ + _<2147483648
     omega
    ·have:j=i∨j=i+1:=by simp only at q2;omega
     rcases this with rfl | rfl
     ·omega
     ·omega
   ·exact er rfl
  ·split
   ·rename_i h1
    rw [Bool.and_eq_true,Bool.and_eq_true] at h1
    obtain⟨k1,e1⟩:=c 1 h1.1.2
    obtain⟨k2,e2⟩:=c 2 h1.2
    split
    ·rename_i h2
     rw [Bool.and_eq_true,decide_eq_true_eq] at h2
     refine⟨Nat.le_trans (by decide) h2.1,?_,(by show 1≤3;omega),by show i+3≤_;omega,fun j hj q1 q2=>?_⟩
     ·show _ + _ + _<2147483648
      omega
     ·have:j=i∨j=i+1∨j=i+2:=by simp only at q2;omega
      rcases this with rfl | rfl | rfl<;>omega
    ·exact er rfl
   ·split
    ·rename_i h1
     rw [Bool.and_eq_true,Bool.and_eq_true,Bool.and_eq_true] at h1
     obtain⟨k1,e1⟩:=c 1 h1.1.1.2
     obtain⟨k2,e2⟩:=c 2 h1.1.2
     obtain⟨k3,e3⟩:=c 3 h1.2
     split
     ·rename_i h2
      rw [Bool.and_eq_true,decide_eq_true_eq] at h2
      refine⟨Nat.le_trans (by decide) h2.1,?_,(by show 1≤4;omega),by show i+4≤_;omega,fun j hj q1 q2=>?_⟩
      ·show _ + _ + _ + _<2147483648
       omega
      ·have:j=i∨j=i+1∨j=i+2∨j=i+3:=by simp only at q2;omega
       rcases this with rfl | rfl | rfl | rfl<;>omega
     ·exact er rfl
    ·exact er rfl
def JH (a:Nat)(s:By):Nat:=s.foldl (fun n b=>10*n+(b.toNat-48)) a
theorem Hg:∀(s:By) (a:Nat),a≤JH a s
 | [],a=>Nat.le_refl _
 | b::s,a=>by
  have:=Hg s (10*a+(b.toNat-48))
  show a≤JH (10*a+(b.toNat-48)) s
  omega
theorem zy:∀(s:By) (a:Nat),(∀b∈s,T9 b=true)→a<18446744073709551616→
  (JH a s<18446744073709551616∧Lib.parseUint10 a s=.ok (JH a s))∨(18446744073709551616≤JH a s∧Lib.parseUint10 a s=.range)
 | [],a,_,h=>.inl ⟨h,rfl⟩
 | b::s,a,hd,h=>by
  have hb:=hd b (by simp)
  simp only [T9,Bool.and_eq_true,decide_eq_true_eq] at hb
  have e:JH a (b::s)=JH (10*a+(b.toNat-48)) s:=rfl
  have hge:=Hg s (10*a+(b.toNat-48))
  rw [Lib.parseUint10,if_pos ⟨hb.1,hb.2⟩,e]
  by_cases h1:1844674407370955162≤a
  ·rw [if_pos h1];right;exact⟨by omega,rfl⟩
  ·rw [if_neg h1]
   by_cases h2:18446744073709551616≤a*10+(b.toNat-48)
   ·rw [if_pos h2];right;exact⟨by omega,rfl⟩
   ·rw [if_neg h2,Nat.mul_comm a 10]
    exact zy s _ (fun c hc=>hd c (by simp [hc])) (by omega)
theorem CF (s:By)(hne:s≠[])(hd:∀b∈s,T9 b=true):
  (Es s<9223372036854775808∧Lib.atoiAll s=.ok (Es s:Int))∨(9223372036854775808≤Es s∧Lib.atoiAll s=.range):=by
 match s,hne with
 | c::r,_=>
  have hc:=hd c (by simp)
  simp only [T9,Bool.and_eq_true,decide_eq_true_eq] at hc
  have h43:¬(c.toNat=43∨c.toNat=45):=by omega
  have h45:¬c.toNat=45:=by omega
  have e:Es (c::r)=JH 0 (c::r):=rfl
  rw [Lib.atoiAll]
  simp only [if_neg h43]
  rw [Lib.parseMag,if_neg (by simp),e]
  rcases zy (c::r) 0 hd (by omega) with⟨h1,h2⟩ | ⟨h1,h2⟩
  ·rw [h2]
   simp only [h45,not_false_eq_true,true_and,false_and,if_false]
   by_cases h3:9223372036854775808≤JH 0 (c::r)
   ·rw [if_pos h3];exact .inr ⟨h3,rfl⟩
   ·rw [if_neg h3];exact .inl ⟨by omega,rfl⟩
  ·rw [h2];exact .inr ⟨by omega,rfl⟩
theorem Ho (p:UInt8→Bool)(s:By):∀b∈s.take (H8 p s),p b=true:=by
 intro b hb
 obtain⟨i,hi,rfl⟩:=List.getElem_of_mem hb
 have h1:i<H8 p s:=by have:=X7 p s;simp at hi;omega
 rw [List.getElem_take]
 exact jC p s i (by have:=X7 p s;omega) h1
open Go Go.AM
def JI (f:Nat):Bool:=Nat.beq f 7||(Nat.beq f 48||Nat.beq f 50)
def aix (f:FuncId):Option SFn:=(fns f).map fun sf=>{sf with pure:=JI f}
def wU (s:List UInt8):Ans:=match Lib.atoiAll s with
 | .ok v=>⟨.tuple [.int .i64 v,.nilIface],[]⟩
 | .range=>⟨.tuple [.int .i64 (Lib.atoiSat s),.iface 249 (.ptr base.next 0)],[.dead]⟩
 | _=>⟨.tuple [.int .i64 0,.iface 249 (.ptr base.next 0)],[.dead]⟩
def Tg (f:FuncId)(args:List j3)(bs:List NB):Option Ans:=match bs with
 | []=>match args with
  | [.str s]=>if s.length<1000000 then (if f=48 then some (wU s) else none) else none
  | [.str s,.str [c]]=>if f=50 then some ⟨.bool (Jt c s),[]⟩ else none
  | _=>none
 | _=>none
def JJ (f:FuncId)(args:List j3)(bs:List NB):Option Ans:=if f=7 then sumOf [⟨7,[],[],.bool true,[]⟩] f args bs else Tg f args bs
def KW:Known:=⟨aix,base,JJ,fun _ _ _=>none⟩
theorem enter {n fu:Nat}{f:FuncId}{sf:SFn}{vs:List j3}{m:Mem}(h:fns f=some sf)(hf:JI f=false):
  w9 KW fu (n+1) (.func f) vs m=D6 (w9 KW fu n) (qE KW (w9 KW fu n) fu) fu sf vs m:=by
 rw [U3]
 have h:KW.fns f=some {sf with pure:=false}:=by
  show (fns f).map _=_
  rw [h,hf];rfl
 simp only [h,G5,J8]
 rfl
theorem Hq {n fu:Nat}{f:FuncId}{sf:SFn}{vs:List j3}{m:Mem}(h:fns f=some sf)(hf:JI f=true):
  w9 KW fu (n+1) (.func f) vs m=bH KW (w9 KW fu n) fu f {sf with pure:=true} vs m:=by
 rw [U3]
 have h:KW.fns f=some {sf with pure:=true}:=by
  show (fns f).map _=_
  rw [h,hf];rfl
 simp only [h,G5]
 rfl
theorem sO {lo:Nat}{l:List j3}(m:Mem)(h1:xD lo l=[])(h2:∀r,nD r l=some l):cO lo l m=some ⟨[],l,[]⟩:=by
 show ob (reach m lo (99999+1) (xD lo l) []) _=_
 rw [h1,uZ]
 show ob (nD (zP lo []) l) (fun xs=>ob (some []) fun bs=>some (⟨[],xs,bs⟩:CO))=_
 rw [h2];rfl
theorem zA (n fu:Nat)(m:Mem):w9 KW fu (n+1) (.func 7) [] m=some [⟨.bool true,m⟩]:=by
 obtain⟨sf,hsf⟩:∃sf,fns 7=some sf:=⟨_,rfl⟩
 rw [Hq (sf:=sf) hsf rfl,Ba (K:=KW) (c:=⟨[],[],[]⟩) (a:=⟨.bool true,[]⟩) (sO m rfl fun _=>rfl)
  (by show JJ 7 [] []=_;rw [JJ,if_pos rfl];rfl)]
 rfl
theorem Bg (s:List UInt8)(c:UInt8)(n fu:Nat)(m:Mem):w9 KW fu (n+1) (.func 50) [.str s,.str [c]] m=some [⟨.bool (Jt c s),m⟩]:=by
 obtain⟨sf,hsf⟩:∃sf,fns 50=some sf:=⟨_,rfl⟩
 rw [Hq (sf:=sf) hsf rfl,Ba (K:=KW) (c:=⟨[],[.str s,.str [c]],[]⟩) (a:=⟨.bool (Jt c s),[]⟩) (sO m rfl fun _=>rfl)
  (by show JJ 50 [.str s,.str [c]] []=_;rw [JJ,if_neg (by decide)];simp [Tg])]
 rfl
theorem MZ (s:List UInt8)(hs:s.length<1000000)(n fu:Nat)(m:Mem)(hm:m.Ok):∃v e m',w9 KW fu (n+1) (.func 48) [.str s] m=some [⟨.tuple [.int .i64 v,e],m'⟩]∧Ext m m'∧
  ((Lib.atoiAll s=.ok v∧e=.nilIface)∨((∀x,Lib.atoiAll s≠.ok x)∧∃p,e=.iface 249 (.ptr p 0))):=by
 obtain⟨sf,hsf⟩:∃sf,fns 48=some sf:=⟨_,rfl⟩
 have key:w9 KW fu (n+1) (.func 48) [.str s] m=ob (fP (aX base.next [] m.next) (wU s).v) fun v=>ob (pV (aX base.next [] m.next) (wU s).bs) fun bs=>one v (layAll bs m):=by
  rw [Hq (sf:=sf) hsf rfl,Ba (K:=KW) (c:=⟨[],[.str s],[]⟩) (a:=wU s) (vg m rfl fun _=>rfl)
   (by show JJ 48 [.str s] []=_;rw [JJ,if_neg (by decide)];show (if s.length<1000000 then _ else _)=_;rw [if_pos hs,if_pos rfl])]
  rfl
 have bad:∀k:Int,ob (fP (aX base.next [] m.next) (.tuple [.int .i64 k,.iface 249 (.ptr base.next 0)])) (fun v=>ob (pV (aX base.next [] m.next) [.dead]) fun bs=>one v (layAll bs m))=some [⟨.tuple [.int .i64 k,.iface 249 (.ptr m.next 0)],m.new .dead⟩]:=fun k=>by
  show ob (ob (ob (some (j3.int .i64 k)) fun x=>ob (ob (ob (ob (aX base.next [] m.next base.next) fun j=>some (j3.ptr j 0)) fun x=>some (j3.iface 249 x)) fun x=>ob (some []) fun y=>some (x::y)) fun y=>some (x::y)) fun x=>some (j3.tuple x)) (fun v=>ob (some [NB.dead]) fun bs=>one v (layAll bs m))=_
  rw [DY];rfl
 cases h:Lib.atoiAll s with
 | ok v=>
  refine⟨v,.nilIface,m,?_,Ext.refl hm,.inl ⟨rfl,rfl⟩⟩
  rw [key];simp only [wU,h];rfl
 | range=>
  refine⟨Lib.atoiSat s,.iface 249 (.ptr m.next 0),m.new .dead,?_,(Ext.refl hm).new _,.inr ⟨(fun x (hx:Lib.NumEnd.range=.ok x)=>by cases hx),m.next,rfl⟩⟩
  rw [key];simp only [wU,h];exact bad _
 | _=>
  refine⟨0,.iface 249 (.ptr m.next 0),m.new .dead,?_,(Ext.refl hm).new _,.inr ⟨(by intro x hx;cases hx),m.next,rfl⟩⟩
  rw [key];simp only [wU,h];exact bad 0
set_option maxRecDepth 100000
set_option maxHeartbeats 4000000
attribute [simp] I J S U Z A V tt ff zaa zab zap zaU zaX zb2 zdn zgH zhf zin
theorem KI (b:UInt8)(n fu:Nat)(m:Mem):w9 KW fu (n+1) (.func 45) [.int .u8 (b.toNat:Nat)] m=some [⟨.bool (Cy b),m⟩]:=by
 rw [enter (sf:=f45) rfl rfl]
 have e1:decide ((97:Int)≤((b.toNat:Nat):Int))=decide (97≤b.toNat):=by rw [Bool.eq_iff_iff];simp only [decide_eq_true_eq];omega
 have e2:decide (((b.toNat:Nat):Int)≤(122:Int))=decide (b.toNat≤122):=by rw [Bool.eq_iff_iff];simp only [decide_eq_true_eq];omega
 by_cases h:97≤b.toNat<;>simp [f45,D6,trD,M7,z8,u7,p8,Cy,e1,e2,h]
theorem Hr (b:UInt8)(n fu:Nat)(m:Mem):w9 KW fu (n+1) (.func 47) [.int .u8 (b.toNat:Nat)] m=some [⟨.bool (T9 b),m⟩]:=by
 rw [enter (sf:=f47) rfl rfl]
 have e1:decide ((48:Int)≤((b.toNat:Nat):Int))=decide (48≤b.toNat):=by rw [Bool.eq_iff_iff];simp only [decide_eq_true_eq];omega
 have e2:decide (((b.toNat:Nat):Int)≤(57:Int))=decide (b.toNat≤57):=by rw [Bool.eq_iff_iff];simp only [decide_eq_true_eq];omega
 by_cases h:48≤b.toNat<;>simp [f47,D6,trD,M7,z8,u7,p8,T9,e1,e2,h]
theorem Ht (b:UInt8)(n fu:Nat)(m:Mem):w9 KW fu (n+1) (.func 51) [.int .u8 (b.toNat:Nat)] m=some [⟨.bool (Cy b),m⟩]:=by
 rw [enter (sf:=f51) rfl rfl]
 have e1:decide ((97:Int)≤((b.toNat:Nat):Int))=decide (97≤b.toNat):=by rw [Bool.eq_iff_iff];simp only [decide_eq_true_eq];omega
 have e2:decide (((b.toNat:Nat):Int)≤(122:Int))=decide (b.toNat≤122):=by rw [Bool.eq_iff_iff];simp only [decide_eq_true_eq];omega
 by_cases h:97≤b.toNat<;>simp [f51,D6,trD,M7,z8,u7,p8,Cy,e1,e2,h]
theorem zB (b:UInt8)(n fu:Nat)(m:Mem):w9 KW fu (n+1) (.func 52) [.int .u8 (b.toNat:Nat)] m=some [⟨.bool (T9 b),m⟩]:=by
 rw [enter (sf:=f52) rfl rfl]
 have e1:decide ((48:Int)≤((b.toNat:Nat):Int))=decide (48≤b.toNat):=by rw [Bool.eq_iff_iff];simp only [decide_eq_true_eq];omega
 have e2:decide (((b.toNat:Nat):Int)≤(57:Int))=decide (b.toNat≤57):=by rw [Bool.eq_iff_iff];simp only [decide_eq_true_eq];omega
 by_cases h:48≤b.toNat<;>simp [f52,D6,trD,M7,z8,u7,p8,T9,e1,e2,h]
theorem QN (b:UInt8)(n fu:Nat)(m:Mem):w9 KW fu (n+2) (.func 46) [.int .u8 (b.toNat:Nat)] m=some [⟨.bool (ldB b),m⟩]:=by
 rw [enter (sf:=f46) rfl rfl]
 have e1:=KI b n fu m
 have e2:=Hr b n fu m
 cases h:Cy b<;>rw [h] at e1<;>simp [f46,D6,trD,M7,z8,u7,p8,ldB,e1,e2,h]
theorem QO (b:UInt8)(n fu:Nat)(m:Mem):w9 KW fu (n+1) (.func 25) [.int .u8 (b.toNat:Nat)] m=some [⟨.bool (b != 10),m⟩]:=by
 rw [enter (sf:=f25) rfl rfl]
 have e:(!decide (((b.toNat:Nat):Int)=10))=(b != 10):=by
  rw [Bool.eq_iff_iff]
  simp only [Bool.not_eq_true',decide_eq_false_iff_not,bne_iff_ne,ne_eq]
  exact not_congr ⟨fun h=>UInt8.toNat_inj.1 (by simp;omega),fun h=>by rw [h];rfl⟩
 simp [f25,D6,trD,M7,z8,u7,p8,e]
theorem Na {m:Mem}{g:FuncId}{p:UInt8→Bool}{n fu:Nat}(s:By)(hs:s.length≤100000)(hg:∀b,w9 KW fu n (.func g) [.int .u8 (b.toNat:Nat)] m=some [⟨.bool (p b),m⟩]):
  ∀(j i:Nat),i+j=H8 p s→∀(c:j3) (N:Nat),j+1≤N→
  ∃c',aD (fun env m k=>Ea (w9 KW fu n) fu none env m k) N (.nd (.nd (.nd .e c .e) (.str s) .e) (.int .i64 (i:Int)) (.nd (.nd .e (.int .i64 0) .e) (.func (.func g) [] []) .e)) m []=some [⟨.exit 0,(.nd (.nd (.nd .e c' .e) (.str s) .e) (.int .i64 (H8 p s:Int)) (.nd (.nd .e (.int .i64 0) .e) (.func (.func g) [] []) .e)),m,[],none⟩]:=by
 have hle:=X7 p s
 intro j
 induction j with
 | zero=>
  intro i hi c N hN
  obtain⟨N,rfl⟩:∃k,N=k+1:=⟨N-1,by omega⟩
  obtain rfl:i=H8 p s:=by omega
  refine⟨.bool false,?_⟩
  rw [y7]
  by_cases hl:H8 p s<s.length
  ·have q:=fun x lo ls env hx hl'=>Z7 (x:=x) (lo:=lo) (ls:=ls) (env:=env) (s:=s) (l:=H8 p s) hx hl' hl
   have e1:decide ((H8 p s:Int)<(s.length:Int))=true:=decide_eq_true (by omega)
   have hb:=hg s[H8 p s]
   rw [jV p s hl] at hb
   simp [Ea,D6,trD,M7,z8,u7,p8,e1,hl,q,hb]
  ·have e1:decide ((H8 p s:Int)<(s.length:Int))=false:=decide_eq_false (by omega)
   simp [Ea,D6,trD,M7,z8,u7,p8,e1,hl]
 | succ j ih=>
  intro i hi c N hN
  obtain⟨N,rfl⟩:∃k,N=k+1:=⟨N-1,by omega⟩
  have hl:i<s.length:=by omega
  have q:=fun x lo ls env hx hl'=>Z7 (x:=x) (lo:=lo) (ls:=ls) (env:=env) (s:=s) (l:=i) hx hl' hl
  have e1:decide ((i:Int)<(s.length:Int))=true:=decide_eq_true (by omega)
  have hb:=hg s[i]
  rw [jC p s i hl (by omega)] at hb
  obtain⟨c',gg⟩:=ih (i+1) (by omega) (.bool true) N (by omega)
  refine⟨c',?_⟩
  rw [y7,← gg]
  simp [Ea,D6,trD,M7,z8,u7,p8,e1,hl,q,hb,Z6 (i:=i) (by omega)]
theorem Hu {m:Mem}{g:FuncId}{p:UInt8→Bool}{n fu:Nat}(s:By)(hs:s.length≤100000)(hg:∀b,w9 KW fu n (.func g) [.int .u8 (b.toNat:Nat)] m=some [⟨.bool (p b),m⟩])(hfu:s.length+1≤fu):
  w9 KW fu (n+1) (.func 24) [.str s,.func (.func g) [] []] m=some [⟨.int .i64 (H8 p s:Int),m⟩]:=by
 have hle:=X7 p s
 obtain⟨c',gg⟩:=Na (m:=m) (n:=n) (fu:=fu) s hs hg (H8 p s) 0 (by omega) .undef fu (by omega)
 have g':aD (fun env m k=>Ea (w9 KW fu n) fu none env m k) fu (.nd (.nd (.nd .e .undef .e) (.str s) .e) (.int .i64 0) (.nd (.nd .e (.int .i64 0) .e) (.func (.func g) [] []) .e)) m []=_:=gg
 rw [enter (sf:=f24) rfl rfl]
 simp [f24,D6,trD,M7,z8,u7,p8,g']
attribute [simp] I J S U Z A V tt ff zaa zab zap zaU zaX zb2 zdn zgH zhf zin
theorem QS (s t:By)(n fu:Nat)(m:Mem):w9 KW fu (n+1) (.func 93) [.str s,.str t] m=some [⟨.bool (decide (s.take t.length=t)),m⟩]:=by
 rw [enter (sf:=f93) rfl rfl]
 by_cases h:t.length≤s.length
 ·have q:=fun x hi ls env hx hh=>qp (x:=x) (hi:=hi) (ls:=ls) (env:=env) (s:=s) (h:=t.length) hx hh h
  have e1:decide ((t.length:Int)≤(s.length:Int))=true:=decide_eq_true (by omega)
  simp [f93,D6,trD,M7,z8,u7,p8,e1,h,q]
 ·have e1:decide ((t.length:Int)≤(s.length:Int))=false:=decide_eq_false (by omega)
  have e2:¬ s.take t.length=t:=fun e=>by have:=congrArg List.length e;simp at this;omega
  simp [f93,D6,trD,M7,z8,u7,p8,e1,h,e2]
theorem QT (s t:By)(n fu:Nat)(m:Mem):w9 KW fu (n+2) (.func 49) [.str s,.str t] m=some [⟨.bool (decide (s.take t.length=t)),m⟩]:=by
 rw [enter (sf:=f49) rfl rfl]
 simp [f49,D6,trD,M7,z8,u7,p8,QS]
def sgs:List By:=[[60,61],[62,61],[61,61],[33,61]]
theorem CG {m:Mem}(hm:m.Ok)(l:List j3):nk (m.new (.cells 1 l.length (T.ofList (l.map ([·]))))) (.slice m.next 0 l.length l.length) l:=
 .inr ⟨m.next,0,.inl ⟨_,rfl,Nat.le_refl _⟩,by simp,.inr ⟨l.length,T.ofList (l.map ([·])),by rw [Mem.D7 hm,if_pos rfl],by simp,fun i hi=>by rw [Nat.zero_add,T.M9];simp [hi]⟩⟩
theorem Nb {M:Mem}{p n fu:Nat}{v:j3}(s:By)(hM:M.get p=some (Q9 [.int .i64 0,.str []]))(hl:M.lim≤p)(hv:nk M v (strs sgs)):
  ∀(j i:Nat),i+j=4→∀(c x y:j3) (N:Nat),j+1≤N→
  ∃c' x' y' i',aD (fun env m k=>Eb (w9 KW fu (n+2)) fu none env m k) N (.nd (.nd (.nd (.nd .e .undef .e) (.ptr p 0) (.nd .e v .e)) (.bool false) (.nd (.nd .e (.int .i64 4) .e) .undef (.nd .e y .e))) (.str s) (.nd (.nd (.nd .e (.int .i64 (i:Int)) .e) (.bool false) (.nd .e x .e)) .undef (.nd (.nd .e c .e) .undef (.nd .e (.bool false) .e)))) M [] =
   bi ((sgs.drop i).any fun t=>decide (s.take 2=t)) (some [⟨.ret,(.nd (.nd (.nd (.nd .e .undef .e) (.ptr p 0) (.nd .e v .e)) (.bool false) (.nd (.nd .e (.int .i64 4) .e) .undef (.nd .e y' .e))) (.str s) (.nd (.nd (.nd .e (.int .i64 (i':Int)) .e) (.bool false) (.nd .e x' .e)) .undef (.nd (.nd .e c' .e) .undef (.nd .e (.bool true) .e)))),M.set p (Q9 [.int .i64 3,.str (s.take 2)]),[],none⟩])
    (some [⟨.exit 1,(.nd (.nd (.nd (.nd .e .undef .e) (.ptr p 0) (.nd .e v .e)) (.bool false) (.nd (.nd .e (.int .i64 4) .e) .undef (.nd .e y' .e))) (.str s) (.nd (.nd (.nd .e (.int .i64 (i':Int)) .e) (.bool false) (.nd .e x' .e)) .undef (.nd (.nd .e c' .e) .undef (.nd .e (.bool false) .e)))),M,[],none⟩]):=by
 have hlen:sgs.length=4:=rfl
 have st:=fun (β:Type) off vs (k:Mem→Option β)=>jT hl off vs k
 intro j
 induction j with
 | zero=>
  intro i hi c x y N hN
  obtain⟨N,rfl⟩:∃k,N=k+1:=⟨N-1,by omega⟩
  obtain rfl:i=4:=by omega
  refine⟨.bool false,x,y,4,?_⟩
  rw [y7]
  simp [Eb,D6,trD,M7,z8,u7,p8,sgs]
 | succ j ih=>
  intro i hi c x y N hN
  obtain⟨N,rfl⟩:∃k,N=k+1:=⟨N-1,by omega⟩
  have hi4:i<sgs.length:=by rw [hlen];omega
  have e1:decide ((i:Int)<(4:Int))=true:=decide_eq_true (by omega)
  have e1':i<4:=by omega
  obtain⟨id,off,g1,g2,g3⟩:=hv.at (i:=i) (by rw [jU];omega)
  have e3:(strs sgs)[i]'(by rw [jU];exact hi4)=.str sgs[i]:=List.getElem_map ..
  rw [e3] at g3
  have g1':vSl v none (fun id off len _=>idx len (.int .i64 (i:Int)) fun k=>some (j3.ptr id (off+k*1))) (fun id off len _=>idx len (.int .i64 (i:Int)) fun k=>some (j3.ptr id (off+k*1)))=some (.ptr id off):=by simpa using g1
  have hp:=QT s sgs[i] n fu M
  have h2:(sgs[i]).length=2:=(by decide:∀t∈sgs,t.length=2) _ (List.getElem_mem hi4)
  rw [h2] at hp
  have hd:sgs.drop i=sgs[i]::sgs.drop (i+1):=List.drop_eq_getElem_cons hi4
  by_cases ht:s.take 2=sgs[i]
  ·rw [decide_eq_true ht] at hp
   refine⟨.bool true,.str sgs[i],.bool true,i,?_⟩
   rw [y7,hd]
   simp [Eb,D6,trD,M7,z8,u7,p8,e1,e1',g1,g3,hp,ht,eP,O3,st,hM,P8,bM]
  ·rw [decide_eq_false ht] at hp
   obtain⟨c',x',y',i',gg⟩:=ih (i+1) (by omega) (.bool true) (.str sgs[i]) (.bool false) N (by omega)
   refine⟨c',x',y',i',?_⟩
   rw [y7,hd,List.any_cons,decide_eq_false ht,Bool.false_or,← gg]
   simp [Eb,D6,trD,M7,z8,u7,p8,e1,e1',g1,g3,hp,Z6 (i:=i) (by omega)]
set_option maxHeartbeats 8000000
attribute [simp] I J S U Z A V tt ff zaa zab zap zaU zaX zb2 zdn zgH zhf zin
theorem bs4 (ls:List j3)(env:T j3)(nid:Nat):F6 1 4 [.str []] [(0,1,x9 (.str [60,61])),(1,1,x9 (.str [62,61])),(2,1,x9 (.str [61,61])),(3,1,x9 (.str [33,61]))] ls env nid=some (.slice nid 0 4 4,some (.cells 1 4 (T.ofList ((strs sgs).map ([·]))))):=rfl
@[simp] theorem adR:cB .nilIface .nilIface=some true:=_root_.id rfl
@[simp] theorem adS (t:TypeId)(v:j3):cB (.iface t v) .nilIface=some false:=_root_.id rfl
theorem Hw (s:By):(sgs.any fun t=>decide (s=t))=ow s:=by simp [sgs,ow,Bool.or_assoc]
theorem Hy (b:UInt8):Jt b ones=ones.contains b:=by
 have:∀l:By,Jt b l=l.contains b:=by
  intro l
  induction l with
  | nil=>rfl
  | cons c l ih=>
   show bi (Nat.beq c.toNat b.toNat) true (Jt b l)=_
   rw [jv,ih,List.contains_cons]
   by_cases h:b=c
   ·subst h;simp
   ·rw [if_neg (fun e=>h (UInt8.toNat_inj.1 e.symm))];simp [h]
 exact this ones
theorem QU {m:Mem}(hm:m.Ok)(hl:m.lim≤m.next)(b:UInt8)(t:By)(hs:(b::t).length≤100000)(n fu:Nat)(hfu:(b::t).length+10≤fu):
  ∃(k:Int) (tx:By) (ok:Bool) (m':Mem),w9 KW fu (n+4) (.func 26) [.str (b::t)] m=some [⟨.tuple [.agg [.int .i64 k,.str tx],.bool ok],m'⟩]∧Ext m m'∧
   match nu (b::t) with
   | none=>ok=false
   | some p=>ok=true∧k=(p.1:Int)∧tx=(b::t).take p.2:=by
 have q0:=fun x lo ls env hx hl'=>MG (x:=x) (lo:=lo) (ls:=ls) (env:=env) (b:=b) (t:=t) hx hl'
 have c45:=KI b (n+2) fu (ext m [Q9 [.int .i64 0,.str []]])
 have c47:=Hr b (n+2) fu (ext m [Q9 [.int .i64 0,.str []]])
 by_cases h1:Cy b=true
 ·rw [h1] at c45
  have hr:=Hu (m:=ext m [Q9 [.int .i64 0,.str []]]) (g:=46) (p:=ldB) (n:=n+2) (fu:=fu) (b::t) hs (fun c=>QN c n fu _) (by omega)
  have q1:=fun x hi ls env hx hh=>qp (x:=x) (hi:=hi) (ls:=ls) (env:=env) (s:=b::t) (h:=H8 ldB (b::t)) hx hh (X7 _ _)
  refine⟨1,(b::t).take (H8 ldB (b::t)),decide ((H8 ldB (b::t):Int)≤16),ext m [Q9 [.int .i64 1,.str ((b::t).take (H8 ldB (b::t)))]],?_,dh hm _,?_⟩
  ·rw [enter (sf:=f26) rfl rfl]
   simp [f26,D6,trD,M7,z8,u7,p8,V8,V9,H6 hm,M0 hm,Z4 hm hl,J3 hm hl,M4 hm,O1 hm,eP,O3,S9,P8,bM,q0,c45,hr,q1]
  ·rw [nu,if_pos h1]
   by_cases h:H8 ldB (b::t)≤16
   ·rw [if_pos h];exact⟨decide_eq_true (by omega),rfl,rfl⟩
   ·rw [if_neg h];exact decide_eq_false (by omega)
 ·have h1':Cy b=false:=by simpa using h1
  rw [h1'] at c45
  by_cases h2:T9 b=true
  ·rw [h2] at c47
   have hr:=Hu (m:=ext m [Q9 [.int .i64 0,.str []]]) (g:=47) (p:=T9) (n:=n+2) (fu:=fu) (b::t) hs (fun c=>Hr c (n+1) fu _) (by omega)
   have hle:=X7 T9 (b::t)
   have q1:=fun x hi ls env hx hh=>qp (x:=x) (hi:=hi) (ls:=ls) (env:=env) (s:=b::t) (h:=H8 T9 (b::t)) hx hh hle
   obtain⟨v,e,m2,ga,E2,hv⟩:=MZ ((b::t).take (H8 T9 (b::t))) (by simp at hs ⊢;omega) (n+2) fu (ext m [Q9 [.int .i64 0,.str []]]) (sD hm _)
   have hg2:m2.get m.next=some (Q9 [.int .i64 0,.str []]):=by
    rw [E2.old m.next (by simp),H6 hm];rfl
   have hn2:m.next<m2.next:=Nat.lt_of_lt_of_le (by simp) E2.next
   have hl2:m2.lim≤m.next:=by rw [E2.lim];simpa using hl
   have st:=fun (β:Type) off vs (k:Mem→Option β)=>jT hl2 off vs k
   have gs:∀B,(m2.set m.next B).get m.next=some B:=fun B=>bX E2.ok _ hn2 rfl
   have E3:∀B,Ext m (m2.set m.next B):=fun B=>((dh hm _).trans E2).set hn2 (Nat.le_refl _) B
   have hd:=Ho T9 (b::t)
   have hr1:1≤H8 T9 (b::t):=by rw [H8,if_pos h2];omega
   have hrne:(b::t).take (H8 T9 (b::t))≠[]:=by
    intro e
    have:=congrArg List.length e
    simp at this;omega
   have h48:decide (((b.toNat:Nat):Int)=48)=decide (b=48):=by
    rw [Bool.eq_iff_iff];simp only [decide_eq_true_eq]
    exact⟨fun h=>UInt8.toNat_inj.1 (by simp;omega),fun h=>by rw [h];rfl⟩
   have hn1:decide ((H8 T9 (b::t):Int)=1)=decide (H8 T9 (b::t)=1):=by
    rw [Bool.eq_iff_iff];simp only [decide_eq_true_eq];omega
   rcases hv with⟨hok,rfl⟩ | ⟨hno,p,rfl⟩
   ·have hval:Es ((b::t).take (H8 T9 (b::t)))<9223372036854775808∧v=(Es ((b::t).take (H8 T9 (b::t))):Int):=by
     rcases CF _ hrne hd with⟨a1,a2⟩ | ⟨a1,a2⟩
     ·rw [a2] at hok;injection hok with hok;exact⟨a1,hok.symm⟩
     ·rw [a2] at hok;cases hok
    by_cases h3:v≤9007199254740992
    ·refine⟨2,(b::t).take (H8 T9 (b::t)),(!decide (b=48))||decide (H8 T9 (b::t)=1),m2.set m.next (Q9 [.int .i64 2,.str ((b::t).take (H8 T9 (b::t)))]),?_,E3 _,?_⟩
     ·rw [enter (sf:=f26) rfl rfl]
      have e3:decide (v≤9007199254740992)=true:=decide_eq_true h3
      cases h4:decide (b=48)<;>rw [h4] at h48<;>simp only [decide_eq_true_eq,decide_eq_false_iff_not] at h48
      ·simp [f26,D6,trD,M7,z8,u7,p8,V8,V9,H6 hm,M0 hm,Z4 hm hl,J3 hm hl,M4 hm,O1 hm,eP,O3,S9,P8,bM,q0,c45,c47,hr,q1,ga,st,hg2,e3,h3,h48,hn1,gs]
      ·rw [h48] at c45 c47
       simp [f26,D6,trD,M7,z8,u7,p8,V8,V9,H6 hm,M0 hm,Z4 hm hl,J3 hm hl,M4 hm,O1 hm,eP,O3,S9,P8,bM,q0,c45,c47,hr,q1,ga,st,hg2,e3,h3,h48,hn1,gs]
     ·rw [nu,if_neg h1,if_pos h2]
      by_cases h4:b=48∧1<H8 T9 (b::t)
      ·rw [if_pos (.inl h4)]
       show ((!decide (b=48))||decide (H8 T9 (b::t)=1))=false
       rw [decide_eq_true h4.1,decide_eq_false (by omega)];rfl
      ·rw [if_neg (by rintro (h | h);exact h4 h;omega)]
       refine⟨?_,rfl,rfl⟩
       by_cases h5:b=48
       ·have:H8 T9 (b::t)=1:=by
         have:¬ 1<H8 T9 (b::t):=fun h=>h4 ⟨h5,h⟩
         omega
        simp [this]
       ·simp [h5]
    ·refine⟨2,(b::t).take (H8 T9 (b::t)),false,m2.set m.next (Q9 [.int .i64 2,.str ((b::t).take (H8 T9 (b::t)))]),?_,E3 _,?_⟩
     ·rw [enter (sf:=f26) rfl rfl]
      have e3:decide (v≤9007199254740992)=false:=decide_eq_false h3
      simp [f26,D6,trD,M7,z8,u7,p8,V8,V9,H6 hm,M0 hm,Z4 hm hl,J3 hm hl,M4 hm,O1 hm,eP,O3,S9,P8,bM,q0,c45,c47,hr,q1,ga,st,hg2,e3,h3,gs]
     ·rw [nu,if_neg h1,if_pos h2,if_pos (.inr (by omega))]
   ·have hbig:9223372036854775808≤Es ((b::t).take (H8 T9 (b::t))):=by
     rcases CF _ hrne hd with⟨a1,a2⟩ | ⟨a1,a2⟩
     ·exact absurd a2 (hno _)
     ·exact a1
    refine⟨2,(b::t).take (H8 T9 (b::t)),false,m2.set m.next (Q9 [.int .i64 2,.str ((b::t).take (H8 T9 (b::t)))]),?_,E3 _,?_⟩
    ·rw [enter (sf:=f26) rfl rfl]
     simp [f26,D6,trD,M7,z8,u7,p8,V8,V9,H6 hm,M0 hm,Z4 hm hl,J3 hm hl,M4 hm,O1 hm,eP,O3,S9,P8,bM,q0,c45,c47,hr,q1,ga,st,hg2,gs]
    ·rw [nu,if_neg h1,if_pos h2,if_pos (.inr (by omega))]
  ·have h2':T9 b=false:=by simpa using h2
   rw [h2'] at c47
   let M:=ext m [Q9 [.int .i64 0,.str []],.cells 1 4 (T.ofList ((strs sgs).map ([·])))]
   have hM:M.get m.next=some (Q9 [.int .i64 0,.str []]):=by rw [H6 hm];rfl
   have hv:nk M (.slice (m.next+1) 0 4 4) (strs sgs):=by
    have:=CG (m:=m.new (Q9 [.int .i64 0,.str []])) (Mem.Ok.new hm _) (strs sgs)
    exact this
   have hlM:M.lim≤m.next:=by simpa [M] using hl
   have hOk:M.Ok:=sD hm _
   obtain⟨c',x',y',i',gg⟩:=Nb (M:=M) (p:=m.next) (n:=n+1) (fu:=fu) (b::t) hM hlM hv 4 0 rfl .undef .undef .undef fu (by omega)
   have gg':aD (fun env m k=>Eb (w9 KW fu (n+3)) fu none env m k) fu (.nd (.nd (.nd (.nd .e .undef .e) (.ptr m.next 0) (.nd .e (.slice (m.next+1) 0 4 4) .e)) (.bool false) (.nd (.nd .e (.int .i64 4) .e) .undef (.nd .e .undef .e))) (.str (b::t)) (.nd (.nd (.nd .e (.int .i64 0) .e) (.bool false) (.nd .e .undef .e)) .undef (.nd (.nd .e .undef .e) .undef (.nd .e (.bool false) .e)))) M []=_:=gg
   rw [show sgs.drop 0=sgs from rfl,Hw] at gg'
   simp only [M] at gg'
   by_cases h3:ow ((b::t).take 2)=true
   ·rw [h3] at gg'
    refine⟨3,(b::t).take 2,true,M.set m.next (Q9 [.int .i64 3,.str ((b::t).take 2)]),?_,(dh hm _).set (by simp) (Nat.le_refl _) _,?_⟩
    ·rw [enter (sf:=f26) rfl rfl]
     have gs:∀B,(M.set m.next B).get m.next=some B:=fun B=>bX hOk _ (by simp [M]) rfl
     simp only [M] at gs
     simp [f26,D6,trD,M7,z8,u7,p8,V8,V9,H6 hm,M0 hm,Z4 hm hl,J3 hm hl,M4 hm,O1 hm,eP,O3,S9,P8,bM,q0,c45,c47,bs4,gg',gs,M]
    ·rw [nu,if_neg h1,if_neg h2,if_pos h3];exact⟨rfl,rfl,rfl⟩
   ·have h3':ow ((b::t).take 2)=false:=by simpa using h3
    rw [h3'] at gg'
    have q1:=fun x hi ls env hx hh=>qp (x:=x) (hi:=hi) (ls:=ls) (env:=env) (s:=b::t) (h:=1) hx hh (by simp)
    have hc:=Bg ones b (n+2) fu M
    rw [Hy] at hc
    simp only [M,ones] at hc
    refine⟨3,[b],ones.contains b,M.set m.next (Q9 [.int .i64 3,.str [b]]),?_,(dh hm _).set (by simp) (Nat.le_refl _) _,?_⟩
    ·rw [enter (sf:=f26) rfl rfl]
     simp only [ones]
     simp [f26,D6,trD,M7,z8,u7,p8,V8,V9,H6 hm,M0 hm,Z4 hm hl,J3 hm hl,M4 hm,O1 hm,eP,O3,S9,P8,bM,q0,c45,c47,bs4,gg',q1,hc,M,-List.contains_eq_mem,-List.contains_cons,-List.elem_eq_contains]
    ·rw [nu,if_neg h1,if_neg h2,if_neg h3]
     by_cases h4:ones.contains b=true
     ·rw [if_pos h4];exact⟨h4,rfl,rfl⟩
     ·rw [if_neg h4];simpa using h4
attribute [simp] I J S U Z A V tt ff zaa zab zap zaU zaX zb2 zdn zgH zhf zin
theorem acn {m:Mem}(hm:m.Ok)(hl:m.lim≤m.next):(∀l:List Blk,(ext m l).get m.next=l[0]?)∧(∀(l:List Blk) (c:Nat),(ext m l).get (m.next+c)=l[c]?)∧
  (∀(β:Type) (l:List Blk) (c off:Nat) (vs:List j3) (k:Mem→Option β),storeAt (ext m l) (m.next+c) off vs k=bi (G7 vs) (ob (stB l[c]? off vs) fun b=>k (ext m (l.set c b))) none)∧
  (∀(β:Type) (l:List Blk) (off:Nat) (vs:List j3) (k:Mem→Option β),storeAt (ext m l) m.next off vs k=bi (G7 vs) (ob (stB l[0]? off vs) fun b=>k (ext m (l.set 0 b))) none)∧
  (∀(l:List Blk) (c:Nat) (b:Blk),c<l.length→(ext m l).set (m.next+c) b=ext m (l.set c b))∧∀(l:List Blk) (b:Blk),0<l.length→(ext m l).set m.next b=ext m (l.set 0 b):=
 ⟨H6 hm,M0 hm,fun _=>Z4 hm hl,fun _=>J3 hm hl,M4 hm,O1 hm⟩
def Brd (s:By)(pos nx:Nat):Prop:=nx≤s.length∧(nx=s.length∨(∀i (h:i<s.length),pos≤i→i<nx→(s[i]).toNat<128)∨∃h:nx<s.length,s[nx]=10)
theorem Brd.mono {s:By}{pos pos' nx:Nat}(h:Brd s pos nx)(hp:pos≤pos'):Brd s pos' nx:=
 ⟨h.1,h.2.imp id (Or.imp (fun h i hi h1 h2=>h i hi (by omega) h2) id)⟩
theorem Brd.step {s:By}{pos nx:Nat}(h:Brd s pos nx)(hl:pos<s.length)(hp:pos<nx):pos+(Utf8.decode ⟨s.toArray⟩ pos).2≤nx:=by
 rcases zx s pos hl with⟨h1,h2⟩ | ⟨h1,h2,h3,h4,h5,h6⟩
 ·rw [h2];exact hp
 ·rcases h.2 with h7 | h7 | ⟨h7,h8⟩
  ·omega
  ·have:=h7 pos hl (Nat.le_refl _) hp;omega
  ·refine Nat.le_of_not_lt fun hn=>?_
   have:=h6 nx h7 (by omega) (by omega)
   rw [h8] at this
   exact absurd this (by decide)
def iC (t:Tok):List j3:=[.int .i64 (t.1:Nat),.str t.2]
def P6 (l:List Tok):List (List j3):=l.map iC
theorem sP (l:List Tok)(t:Tok):P6 (l ++ [t])=P6 l ++ [iC t]:=by simp [P6]
theorem JK {m:Mem}{s:By}{p pos:Nat}(h:m.get p=some (.siter s pos))(hl:m.lim≤p)(hp:pos<s.length)(it:OF)(cf:y8)(ls:List j3)(env:T j3)(hi:it ls env=.ptr p 0):
  tY it cf ls env m=some [⟨.tuple [.bool true,.int .i64 (pos:Nat),.int .i32 ((Utf8.decode ⟨s.toArray⟩ pos).1:Nat)],m.set p (.siter s (pos+(Utf8.decode ⟨s.toArray⟩ pos).2))⟩]:=by
 show iP (it ls env) (fun id off=>bi (Nat.beq off 0) (bi (Nat.blt id m.lim) none (Bu (m.get id) fun s pos=>bi (Nat.blt pos (len' s)) _ _)) none)=_
 rw [hi,Gn,show Nat.beq 0 0=true from rfl,H9,show Nat.blt p m.lim=false from Bool.eq_false_iff.2 fun e=>by have:=Nat.blt_eq.mp e;omega,J8,h]
 show bi (Nat.blt pos (len' s)) _ _=_
 rw [C8,show Nat.blt pos s.length=true from Nat.blt_eq.mpr hp];rfl
theorem zC {m:Mem}{s:By}{p:Nat}(h:m.get p=some (.siter s s.length))(hl:m.lim≤p)(it:OF)(cf:y8)(ls:List j3)(env:T j3)(hi:it ls env=.ptr p 0):
  tY it cf ls env m=some [⟨.tuple [.bool false],m⟩]:=by
 show iP (it ls env) (fun id off=>bi (Nat.beq off 0) (bi (Nat.blt id m.lim) none (Bu (m.get id) fun s pos=>bi (Nat.blt pos (len' s)) _ _)) none)=_
 rw [hi,Gn,show Nat.beq 0 0=true from rfl,H9,show Nat.blt p m.lim=false from Bool.eq_false_iff.2 fun e=>by have:=Nat.blt_eq.mp e;omega,J8,h]
 show bi (Nat.blt s.length (len' s)) _ _=_
 rw [C8,show Nat.blt s.length s.length=false from Bool.eq_false_iff.2 fun e=>by have:=Nat.blt_eq.mp e;omega];rfl
def bY (s:By)(p:Nat)(acc:List Tok)(M:Mem)(r:Option (List Out))(l:Sum Nat (List Tok)):Prop:=
 (∃(ts:List Tok) (e3 e4 e5 e6 e7 e8 e9 e10 e11 out e13:j3) (M':Mem),l=.inr ts∧r=some [⟨.exit 0,(.nd (.nd (.nd (.nd (.nd .e (.int .i64 0) .e) e7 .e) e3 (.nd .e e11 .e)) (.bool false) (.nd (.nd .e e9 .e) e5 (.nd .e e13 .e))) (.str s) (.nd (.nd (.nd (.nd .e (.int .i64 0) .e) e8 .e) e4 (.nd .e out .e)) (.ptr p 0) (.nd (.nd .e e10 .e) e6 (.nd .e .nilSlice .e)))),M',[],none⟩]∧Fr (p+1) p M M'∧mW (p+1) 2 M' out (P6 (acc++ts))∧(acc++ts).length≤s.length)∨
 (∃(j:Nat) (e3 e4 e5 e6 e7 e8 e9 e10 e11 out e13:j3) (M':Mem),l=.inl j∧r=some [⟨.ret,(.nd (.nd (.nd (.nd (.nd .e (.int .i64 7) .e) e7 .e) e3 (.nd .e e11 .e)) (.bool false) (.nd (.nd .e e9 .e) e5 (.nd .e e13 .e))) (.str s) (.nd (.nd (.nd (.nd .e (.int .i64 (j:Int)) .e) e8 .e) e4 (.nd .e out .e)) (.ptr p 0) (.nd (.nd .e e10 .e) e6 (.nd .e .nilSlice .e)))),M',[],none⟩]∧Fr (p+1) p M M')
theorem bY.fr {s:By}{p:Nat}{acc:List Tok}{M M1:Mem}{r:Option (List Out)}{l:Sum Nat (List Tok)}(h:bY s p acc M1 r l)(hf:Fr (p+1) p M M1):bY s p acc M r l:=by
 rcases h with⟨ts,e3,e4,e5,e6,e7,e8,e9,e10,e11,out,e13,M',h1,h2,h3,h4⟩ | ⟨j,e3,e4,e5,e6,e7,e8,e9,e10,e11,out,e13,M',h1,h2,h3⟩
 ·exact .inl ⟨ts,e3,e4,e5,e6,e7,e8,e9,e10,e11,out,e13,M',h1,h2,hf.trans h3,h4⟩
 ·exact .inr ⟨j,e3,e4,e5,e6,e7,e8,e9,e10,e11,out,e13,M',h1,h2,hf.trans h3⟩
theorem bY.tok {s:By}{p k l i:Nat}{b:UInt8}{t:By}{acc:List Tok}{M:Mem}{r:Option (List Out)}(hb:¬(b=32∨b=10))(h1:b≠35)(ht:nu (b::t)=some (k,l))
  (h:bY s p (acc ++ [(k,(b::t).take l)]) M r (tT (i+l) ((b::t).drop l))):bY s p acc M r (tT i (b::t)):=by
 rw [CB hb h1 ht]
 rcases h with⟨ts,e3,e4,e5,e6,e7,e8,e9,e10,e11,out,e13,M',h1,h2,h3,h4⟩ | ⟨j,e3,e4,e5,e6,e7,e8,e9,e10,e11,out,e13,M',h1,h2,h3⟩
 ·rw [h1]
  exact .inl ⟨_,e3,e4,e5,e6,e7,e8,e9,e10,e11,out,e13,M',rfl,h2,h3,by simpa using h4⟩
 ·rw [h1]
  exact .inr ⟨j,e3,e4,e5,e6,e7,e8,e9,e10,e11,out,e13,M',rfl,h2,h3⟩
theorem QV {p n fu:Nat}(s:By)(hs:s.length≤10000)(hfu:s.length+20≤fu):∀(r pos:Nat),s.length-pos≤r→pos≤s.length→
  ∀(nx:Nat) (acc:List Tok) (e3 e4 e5 e7 e8 e9 e10 e11 out e13:j3) (M:Mem) (N:Nat),M.Ok→M.lim≤p→p<M.next→M.get p=some (.siter s pos)→Brd s pos nx→mW (p+1) 2 M out (P6 acc)→acc.length≤max pos nx→r+1≤N→
  bY s p acc M (aD (fun env m k=>Er (w9 KW fu (n+4)) fu none env m k) N (.nd (.nd (.nd (.nd (.nd .e (.int .i64 0) .e) e7 .e) e3 (.nd .e e11 .e)) (.bool false) (.nd (.nd .e e9 .e) e5 (.nd .e e13 .e))) (.str s) (.nd (.nd (.nd (.nd .e (.int .i64 0) .e) e8 .e) e4 (.nd .e out .e)) (.ptr p 0) (.nd (.nd .e e10 .e) (.int .i64 (nx:Int)) (.nd .e .nilSlice .e)))) M []) (tT (max pos nx) (s.drop (max pos nx))):=by
 intro r
 induction r with
 | zero=>
  intro pos hr hle nx acc e3 e4 e5 e7 e8 e9 e10 e11 out e13 M N hM hl hp hg hb ho hac hN
  obtain⟨N,rfl⟩:∃k,N=k+1:=⟨N-1,by omega⟩
  obtain rfl:pos=s.length:=by omega
  have hmx:max s.length nx=s.length:=by have:=hb.1;omega
  have ge:=fun it cf ls env hi=>zC (m:=M) (s:=s) (p:=p) hg hl it cf ls env hi
  rw [hmx,List.drop_of_length_le (Nat.le_refl _),qx]
  refine .inl ⟨[],.bool false,.tuple [.bool false],e5,.int .i64 (nx:Nat),e7,e8,e9,e10,e11,out,e13,M,rfl,?_,Fr.refl hM,by simpa using ho,by simpa [hmx] using hac⟩
  rw [y7]
  simp [Er,D6,trD,M7,z8,u7,p8,ge]
 | succ r ih=>
  intro pos hr hle nx acc e3 e4 e5 e7 e8 e9 e10 e11 out e13 M N hM hl hp hg hb ho hac hN
  obtain⟨N,rfl⟩:∃k,N=k+1:=⟨N-1,by omega⟩
  by_cases hlt:pos<s.length
  ·have ge:=fun it cf ls env hi=>JK (m:=M) (s:=s) (p:=p) (pos:=pos) hg hl hlt it cf ls env hi
   have hstep:=fun h=>hb.step hlt h
   have hdc:=zx s pos hlt
   have hdr:s.drop pos=s[pos]::s.drop (pos+1):=List.drop_eq_getElem_cons hlt
   generalize hD:Utf8.decode ⟨s.toArray⟩ pos=D at ge hstep hdc
   obtain⟨c,w⟩:=D
   simp only at ge hstep hdc
   have hwp:1≤w∧pos+w≤s.length∧c<2147483648:=by
    rcases hdc with⟨h1,h2⟩ | ⟨h1,h2,h3,h4,h5,h6⟩
    ·cases h2;omega
    ·omega
   have hM1:(M.set p (.siter s (pos+w))).Ok:=Mem.Ok.set hM hp _
   have hg1:(M.set p (.siter s (pos+w))).get p=some (.siter s (pos+w)):=bX hM _ hp rfl
   have hf1:Fr (p+1) p M (M.set p (.siter s (pos+w))):=⟨hM1,by simp,by simp,fun i hi hn=>jS hM _ hp hn⟩
   have ho1:mW (p+1) 2 (M.set p (.siter s (pos+w))) out (P6 acc):=ho.keep (by simp) fun i h1 h2=>jS hM _ hp (by omega)
   generalize hM1e:M.set p (.siter s (pos+w))=M1 at ge hM1 hg1 hf1 ho1
   have hn1:M.next=M1.next:=by rw [← hM1e];rfl
   have hl1:M1.lim≤p:=by rw [hf1.lim];exact hl
   by_cases hnx:pos<nx
   ·have h1:=hstep hnx
    have hmx:max pos nx=max (pos+w) nx:=by omega
    have g:=ih (pos+w) (by omega) (by omega) nx acc (.bool true) (.tuple [.bool true,.int .i64 (pos:Nat),.int .i32 (c:Nat)]) (.int .i64 (pos:Nat)) (.int .i32 (c:Nat)) (.bool true) e9 e10 e11 out e13 M1 N hM1 hl1 (by omega) hg1 (hb.mono (by omega)) ho1 (by omega) (by omega)
    rw [hmx]
    refine bY.fr ?_ hf1
    rw [y7]
    refine Eq.mpr (congrArg (fun r=>bY s p _ _ r _) ?_) g
    simp [Er,D6,trD,M7,z8,u7,p8,ge,hnx]
   ·have hmx:max pos nx=pos:=by omega
    rw [hmx] at hac ⊢
    rw [hdr]
    have hc32:(c:Int)=32↔s[pos]=32:=by
     rcases hdc with⟨h1,h2⟩ | ⟨h1,h2,_⟩
     ·cases h2
      exact⟨fun h=>UInt8.toNat_inj.1 (by simp;omega),fun h=>by rw [h];rfl⟩
     ·exact⟨fun h=>by omega,fun h=>by rw [h] at h1;exact absurd h1 (by decide)⟩
    have hc10:(c:Int)=10↔s[pos]=10:=by
     rcases hdc with⟨h1,h2⟩ | ⟨h1,h2,_⟩
     ·cases h2
      exact⟨fun h=>UInt8.toNat_inj.1 (by simp;omega),fun h=>by rw [h];rfl⟩
     ·exact⟨fun h=>by omega,fun h=>by rw [h] at h1;exact absurd h1 (by decide)⟩
    have hc35:(c:Int)=35↔s[pos]=35:=by
     rcases hdc with⟨h1,h2⟩ | ⟨h1,h2,_⟩
     ·cases h2
      exact⟨fun h=>UInt8.toNat_inj.1 (by simp;omega),fun h=>by rw [h];rfl⟩
     ·exact⟨fun h=>by omega,fun h=>by rw [h] at h1;exact absurd h1 (by decide)⟩
    have hw1:(s[pos]).toNat<128→w=1:=fun h=>by
     rcases hdc with⟨h1,h2⟩ | ⟨h1,_⟩
     ·cases h2;rfl
     ·omega
    have d32:decide ((c:Int)=32)=decide (s[pos]=32):=by rw [Bool.eq_iff_iff];simpa using hc32
    have d10:decide ((c:Int)=10)=decide (s[pos]=10):=by rw [Bool.eq_iff_iff];simpa using hc10
    have d35:decide ((c:Int)=35)=decide (s[pos]=35):=by rw [Bool.eq_iff_iff];simpa using hc35
    have bt:∀(P:Prop) [Decidable P],P→decide P=true:=fun P _ h=>decide_eq_true h
    have q1:=fun x lo ls env hx hl=>JC (x:=x) (lo:=lo) (ls:=ls) (env:=env) (s:=s) (l:=pos) hx hl (by omega)
    by_cases hbl:s[pos]=32∨s[pos]=10
    ·have hw:w=1:=hw1 (by rcases hbl with h | h<;>rw [h]<;>decide)
     subst hw
     rw [vo hbl]
     have g:=ih (pos+1) (by omega) (by omega) nx acc (.bool true) (.tuple [.bool true,.int .i64 (pos:Nat),.int .i32 (c:Nat)]) (.int .i64 (pos:Nat)) (.int .i32 (c:Nat)) (.bool true) e9 e10 e11 out e13 M1 N hM1 hl1 (by omega) hg1 (hb.mono (by omega)) ho1 (by omega) (by omega)
     rw [show max (pos+1) nx=pos+1 from by omega] at g
     refine bY.fr ?_ hf1
     rw [y7]
     refine Eq.mpr (congrArg (fun r=>bY s p _ _ r _) ?_) g
     rcases hbl with h | h
     ·have e1:=hc32.2 h
      simp [Er,D6,trD,M7,z8,u7,p8,ge,hnx,e1]
     ·have e1:=hc10.2 h
      have e2:¬ (c:Int)=32:=by omega
      simp [Er,D6,trD,M7,z8,u7,p8,ge,hnx,e1,e2]
    ·have n32:¬ (c:Int)=32:=fun h=>hbl (.inl (hc32.1 h))
     have n10:¬ (c:Int)=10:=fun h=>hbl (.inr (hc10.1 h))
     by_cases h35:s[pos]=35
     ·have hw:w=1:=hw1 (by rw [h35];decide)
      subst hw
      have hc:=hc35.2 h35
      have hr0:=Hu (m:=M1) (g:=25) (p:=fun c=>c != 10) (n:=n+3) (fu:=fu) (s.drop pos) (by simp;omega) (fun c=>QO c (n+2) fu _) (by simp;omega)
      have hrl:=X7 (fun c=>c != 10) (s.drop pos)
      rw [List.length_drop] at hrl
      have hr1:1≤H8 (fun c=>c != 10) (s.drop pos):=by rw [hdr,H8,if_pos (by rw [h35];decide)];omega
      have hbr:Brd s (pos+1) (pos+H8 (fun c=>c != 10) (s.drop pos)):=by
       refine⟨by omega,?_⟩
       by_cases he:pos+H8 (fun c=>c != 10) (s.drop pos)=s.length
       ·exact .inl he
       ·have hlt':H8 (fun c=>c != 10) (s.drop pos)<(s.drop pos).length:=by rw [List.length_drop];omega
        have:=jV (fun c=>c != 10) (s.drop pos) hlt'
        rw [List.getElem_drop] at this
        exact .inr (.inr ⟨by omega,by simpa using this⟩)
      have g:=ih (pos+1) (by omega) (by omega) (pos+H8 (fun c=>c != 10) (s.drop pos)) acc (.bool true) (.tuple [.bool true,.int .i64 (pos:Nat),.int .i32 (c:Nat)]) (.int .i64 (pos:Nat)) (.int .i32 (c:Nat)) (.bool false) (.bool true) e10 e11 out e13 M1 N hM1 hl1 (by omega) hg1 hbr ho1 (by omega) (by omega)
      rw [show max (pos+1) (pos+H8 (fun c=>c != 10) (s.drop pos))=pos+H8 (fun c=>c != 10) (s.drop pos) from by omega] at g
      have e1:w64 ((pos:Int)+(H8 (fun c=>c != 10) (s.drop pos):Int))=((pos+H8 (fun c=>c != 10) (s.drop pos):Nat):Int):=by rw [kF (by omega) (by omega)];omega
      have hlx:tT pos (s[pos]::s.drop (pos+1))=tT (pos+H8 (fun c=>c != 10) (s.drop pos)) (s.drop (pos+H8 (fun c=>c != 10) (s.drop pos))):=by
       have:s.drop pos=35::s.drop (pos+1):=by rw [hdr,h35]
       rw [h35,zw,← this,List.drop_drop]
      rw [hlx]
      refine bY.fr ?_ hf1
      rw [y7]
      refine Eq.mpr (congrArg (fun r=>bY s p _ _ r _) ?_) g
      simp [Er,D6,trD,M7,z8,u7,p8,ge,hnx,hc,q1,hr0,e1]
     ·have n35:¬ (c:Int)=35:=fun h=>h35 (hc35.1 h)
      obtain⟨k,tx,ok,M2,ga,E2,hk⟩:=QU hM1 (by omega) s[pos] (s.drop (pos+1)) (by simp;omega) n fu (by simp;omega)
      rw [← hdr] at ga
      have hm:=E2.ok
      have hl2:M2.lim≤M2.next:=by rw [E2.lim];exact Nat.le_trans (by omega) E2.next
      have hg2:M2.get p=some (.siter s (pos+w)):=(E2.old p (by omega)).trans hg1
      cases htk:nu (s[pos]::s.drop (pos+1)) with
      | none=>
       rw [htk] at hk
       obtain rfl:ok=false:=hk
       rw [Cz hbl h35 htk]
       refine bY.fr (.inr ⟨pos,.bool true,.tuple [.bool true,.int .i64 (pos:Nat),.int .i32 (c:Nat)],.int .i64 (pos:Nat),.int .i64 (nx:Nat),.int .i32 (c:Nat),.bool false,.bool false,.bool false,.bool true,out,.ptr M2.next 0,ext M2 [Q9 [.int .i64 k,.str tx]],rfl,?_,(E2.fr (by omega)).trans ((dh hm _).fr (Nat.le_trans (by omega) E2.next))⟩) hf1
       rw [y7]
       have S':=acn hm hl2
       obtain⟨x1,x2,x3,x4,x5,x6⟩:=S'
       simp [Er,D6,trD,M7,z8,u7,p8,ge,hnx,n32,n10,n35,q1,ga,V8,V9,x1,x2,x3,x4,x5,x6,eP,O3,S9,P8,bM]
      | some q=>
       obtain⟨k',l⟩:=q
       rw [htk] at hk
       obtain⟨rfl,rfl,rfl⟩:=hk
       obtain⟨hl1',hl2',hk1,hk2,hasc⟩:=qw htk
       have hw:w=1:=hw1 (by have:=hasc 0 (by simp;omega) (by omega);simpa using this)
       subst hw
       have hlen:l≤s.length-pos:=by simpa [← hdr] using hl2'
       have htx:((s[pos]::s.drop (pos+1)).take l).length=l:=by rw [List.length_take];omega
       have hm1:(ext M2 [Q9 [.int .i64 (k':Int),.str ((s[pos]::s.drop (pos+1)).take l)]]).Ok:=sD hm _
       have E3:Ext M2 (ext M2 [Q9 [.int .i64 (k':Int),.str ((s[pos]::s.drop (pos+1)).take l)],Q9 [.int .i64 (k':Int),.str ((s[pos]::s.drop (pos+1)).take l)]]):=dh hm _
       have hx:mV (ext M2 [Q9 [.int .i64 (k':Int),.str ((s[pos]::s.drop (pos+1)).take l)],Q9 [.int .i64 (k':Int),.str ((s[pos]::s.drop (pos+1)).take l)]]) 2 (.slice (M2.next+1) 0 1 1) [iC (k',(s[pos]::s.drop (pos+1)).take l)]:=by
        have:=KG hm1 (iC (k',(s[pos]::s.drop (pos+1)).take l)) (by simp [iC])
        exact this
       have ho2:=(ho1.ext E2).ext E3
       obtain⟨v5,M5,gb,ho5,F5,old5⟩:=KF (lo:=p+1) (rs:=2) (bytes:=24) (r:=iC (k',(s[pos]::s.drop (pos+1)).take l)) E3.ok (by simp;rw [E2.lim];omega) (by simp;have:=E2.next;omega) (by omega) ho2 hx (by simp [iC]) (by simp [iC,bM]) (by simp [P6];omega) ⟨by omega,by omega⟩
       have po:=fun {β:Type} (p:j3→β) q=>ho5.slice.pan p q
       have hold:M5.get M2.next=some (Q9 [.int .i64 (k':Int),.str ((s[pos]::s.drop (pos+1)).take l)]):=by
        rw [old5 M2.next (by simp) fun o n e hv=>by
         have:=(ho1.lt hv).2
         have:=E2.next
         omega,H6 hm]
        rfl
       have FF:Fr (p+1) p M1 M5:=(E2.fr (by omega)).trans ((E3.fr (Nat.le_trans (by omega) E2.next)).trans ((F5.mono (q:=p+1) (Nat.le_refl _)).down (Nat.le_refl _) |> fun F=>⟨F.ok,F.next,F.lim,fun i hi hn=>F.old i hi (by omega)⟩))
       have hg5:M5.get p=some (.siter s (pos+1)):=by
        rw [F5.old p (by omega) (by omega),E3.old p (Nat.lt_of_lt_of_le (by omega) E2.next)];exact hg2
       have hbr:Brd s (pos+1) (pos+l):=⟨by omega,.inr (.inl fun i hi h1 h2=>by
        have:=hasc (i-pos) (by simp;omega) (by omega)
        have e:(s[pos]::s.drop (pos+1))[i-pos]'(by simp;omega)=s[i]:=by
         have h3:(s.drop pos)[i-pos]'(by simp;omega)=s[i]:=by rw [List.getElem_drop];congr 1;omega
         rw [← h3];congr 1;exact hdr.symm
        rwa [e] at this)⟩
       have g:=ih (pos+1) (by omega) (by omega) (pos+l) (acc ++ [(k',(s[pos]::s.drop (pos+1)).take l)]) (.bool true) (.tuple [.bool true,.int .i64 (pos:Nat),.int .i32 (c:Nat)]) (.int .i64 (pos:Nat)) (.int .i32 (c:Nat)) (.bool false) (.bool false) (.bool true) (.bool false) v5 (.ptr M2.next 0) M5 N F5.ok (by rw [FF.lim];exact hl1) (Nat.lt_of_lt_of_le (by omega) FF.next) hg5 hbr (by rw [sP];exact ho5) (by simp;omega) (by omega)
       rw [show max (pos+1) (pos+l)=pos+l from by omega] at g
       have e1:w64 ((pos:Int)+(l:Int))=((pos+l:Nat):Int):=by rw [kF (by omega) (by omega)];omega
       refine bY.tok hbl h35 htk ?_
       rw [show (s[pos]::s.drop (pos+1)).drop l=s.drop (pos+l) from by rw [← hdr,List.drop_drop]]
       refine bY.fr ?_ (hf1.trans FF)
       rw [y7]
       refine Eq.mpr (congrArg (fun r=>bY s p _ _ r _) ?_) g
       obtain⟨x1,x2,x3,x4,x5,x6⟩:=acn hm hl2
       have hbs:∀z ps ls env nid,List.length z=2→F6 2 1 z ps ls env nid=ob (lay ps ls env z) fun cells=>if cells.length=2 then some (.slice nid 0 1 1,some (Q9 cells)) else none:=fun z ps ls env nid h=>kG 2 z ps ls env nid h
       generalize (s[pos]::s.drop (pos+1)).take l=tx at *
       simp [Er,D6,trD,M7,z8,u7,p8,ge,hnx,n32,n10,n35,q1,ga,V8,V9,x1,x2,x3,x4,x5,x6,eP,O3,S9,P8,bM,hbs,gb,po,hold,htx,e1]
  ·obtain rfl:pos=s.length:=by omega
   have hmx:max s.length nx=s.length:=by have:=hb.1;omega
   have ge:=fun it cf ls env hi=>zC (m:=M) (s:=s) (p:=p) hg hl it cf ls env hi
   rw [hmx,List.drop_of_length_le (Nat.le_refl _),qx]
   refine .inl ⟨[],.bool false,.tuple [.bool false],e5,.int .i64 (nx:Nat),e7,e8,e9,e10,e11,out,e13,M,rfl,?_,Fr.refl hM,by simpa using ho,by simpa [hmx] using hac⟩
   rw [y7]
   simp [Er,D6,trD,M7,z8,u7,p8,ge]
end
end Go.Proofs.YteecnooaopfkeaaGreatDoor.TT
