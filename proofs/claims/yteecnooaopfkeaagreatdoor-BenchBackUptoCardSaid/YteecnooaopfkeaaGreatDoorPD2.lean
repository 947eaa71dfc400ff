/- The reader of the program, walked; conditions: the memory holds what the arguments say. -/
import Derived.Test.YteecnooaopfkeaaGreatDoorPD1
set_option linter.all false
namespace Go.Proofs.YteecnooaopfkeaaGreatDoor.TT
open Go Go.AM
noncomputable section
def zJ (s:By):Nat:=if jq (s.headD 0) then 1 else 3
def bC (s:By):List Tok->Bool
 | []=>false
 | t :: _=>decide (t=(zJ s,s))
def jL (s:By)(toks:List Tok):List Tok:=if bC s toks then toks.drop 1 else toks
def rsv:List By:=[[108,101,116],[105,102],[101,108,115,101],[119,104,105,108,101],[112,114,105,110,116],[97,110,100],[111,114],[110,111,116]]
def HV (s:By):Bool:=rsv.contains s
def fV:List Tok->Bool
 | []=>false
 | t :: _=>decide (t.1=1) && !HV t.2
def Zp (lv:Int):List Tok->Option Int
 | []=>none
 | t :: _=>nH lv (t.1:Int) t.2
def HY:List Tok->Bool
 | []=>false
 | t :: _=>decide (t.1=2)
def txt (t:List Tok):By:=(t.headD (0,[])).2
mutual
def aj:Nat->Nat->List Tok->Option (Ex×List Tok)
 | 0,_,_=>none
 | f+1,lv,t=>
  if lv=2 then
   if bC [110,111,116] t then (match aj f 2 (t.drop 1) with | none=>none | some (x,r)=>some (.mk 5 0 [] [x],r)) else aj f 3 t
  else if lv=6 then
   if bC [45] t then (match aj f 6 (t.drop 1) with | none=>none | some (x,r)=>some (.mk 4 0 [] [x],r)) else iw f t
  else match aj f (lv+1) t with
   | none=>none
   | some (x,r)=>bK f lv x r
def bK:Nat->Nat->Ex->List Tok->Option (Ex×List Tok)
 | 0,_,_,_=>none
 | f+1,lv,x,t=>match Zp (lv:Int) t with
  | none=>some (x,t)
  | some k=>match aj f (lv+1) (t.drop 1) with
   | none=>none
   | some (y,r)=>if lv=3 then some (.mk k 0 [] [x,y],r) else bK f lv (.mk k 0 [] [x,y]) r
def iw:Nat->List Tok->Option (Ex×List Tok)
 | 0,_=>none
 | f+1,t=>
  if HY t then some (.mk 1 (nX (txt t):Nat) [] [],t.drop 1)
  else if bC [40] t then
   match aj f 0 (t.drop 1) with
   | none=>none
   | some (x,r)=>if bC [41] r then some (x,r.drop 1) else none
  else if fV t then
   if bC [40] (t.drop 1) then
    if bC [41] (t.drop 2) then some (.mk 3 0 (txt t) [],t.drop 3)
    else match gF f (t.drop 2) with
     | none=>none
     | some (l,r)=>if bC [41] r then some (.mk 3 0 (txt t) l,r.drop 1) else none
   else some (.mk 2 0 (txt t) [],t.drop 1)
  else none
def gF:Nat->List Tok->Option (List Ex×List Tok)
 | 0,_=>none
 | f+1,t=>match aj f 0 t with
  | none=>none
  | some (x,r)=>fZ f [x] r
def fZ:Nat->List Ex->List Tok->Option (List Ex×List Tok)
 | 0,_,_=>none
 | f+1,acc,t=>if bC [44] t then
    match aj f 0 (t.drop 1) with
    | none=>none
    | some (y,r)=>fZ f (acc ++ [y]) r
  else some (acc,t)
end
def zK (f:Nat)(k:Int)(t:List Tok):Option (V4×List Tok):=
 if fV t then
  if bC [61] (t.drop 1) then
   match aj f 0 (t.drop 2) with
   | none=>none
   | some (x,r)=>some (.mk k (txt t) [x] [] [],r)
  else none
 else none
def pR (t:List Tok):Bool:=bC [40] (t.drop 1)&&fV t
def wW (f:Nat)(t:List Tok):Option (V4×List Tok):=
 if bC [112,114,105,110,116] t then
  match gF f (t.drop 1) with
  | none=>none
  | some (l,r)=>some (.mk 5 [] l [] [],r)
 else if bC [108,101,116] t then zK f 1 (t.drop 1)
 else if pR t then
  match iw f t with
  | none=>none
  | some (x,r)=>some (.mk 6 [] [x] [] [],r)
 else zK f 2 t
mutual
def kY:Nat->List Tok->Option (V4×List Tok)
 | 0,_=>none
 | f+1,t=>
  if bC [105,102] t then
   match aj f 0 (t.drop 1) with
   | none=>none
   | some (x,r)=>match pU f r with
    | none=>none
    | some (th,r2)=>if bC [101,108,115,101] r2 then
      match pU f (r2.drop 1) with
      | none=>none
      | some (el,r3)=>some (.mk 3 [] [x] th el,r3)
     else some (.mk 3 [] [x] th [],r2)
  else if bC [119,104,105,108,101] t then
   match aj f 0 (t.drop 1) with
   | none=>none
   | some (x,r)=>match pU f r with
    | none=>none
    | some (th,r2)=>some (.mk 4 [] [x] th [],r2)
  else match wW f t with
   | none=>none
   | some (s,r)=>if bC [59] r then some (s,r.drop 1) else none
def pU:Nat->List Tok->Option (List V4×List Tok)
 | 0,_=>none
 | f+1,t=>if bC [123] t then qp f [] (t.drop 1) else none
def qp:Nat->List V4->List Tok->Option (List V4×List Tok)
 | 0,_,_=>none
 | f+1,acc,t=>if bC [125] t then some (acc,t.drop 1) else
    match kY f t with
    | none=>none
    | some (s,r)=>qp f (acc ++ [s]) r
end
def sI:Nat->List V4->List Tok->Option (List V4)
 | 0,_,_=>none
 | f+1,acc,t=>if t=[] then some acc else
    match kY f t with
    | none=>none
    | some (s,r)=>sI f (acc ++ [s]) r
theorem aR {s:By}{t:List Tok}(h:bC s t=true):1<=t.length:=by cases t;cases h;simp
theorem sJ {t:List Tok}(h:fV t=true):1<=t.length:=by cases t;cases h;simp
theorem Qr {t:List Tok}(h:HY t=true):1<=t.length:=by cases t;cases h;simp
theorem Ng {lv k:Int}{t:List Tok}(h:Zp lv t=some k):1<=t.length:=by cases t;cases h;simp
theorem uq (f:Nat):(∀lv t x r,aj f lv t=some (x,r)->r.length<t.length)∧(∀lv x t y r,bK f lv x t=some (y,r)->r.length<=t.length)∧(∀t x r,iw f t=some (x,r)->r.length<t.length)∧
  (∀t x r,gF f t=some (x,r)->r.length<t.length)∧(∀l t x r,fZ f l t=some (x,r)->r.length<=t.length):=by
 have g:=@aR;have i:=@Ng;have j:=@Qr;have k:=@sJ;induction f with
 | zero=>exact⟨by intro _ _ _ _ h;simp [aj] at h,by intro _ _ _ _ _ h;simp [bK] at h,by intro _ _ _ h;simp [iw] at h,by intro _ _ _ h;simp [gF] at h,by intro _ _ _ _ h;simp [fZ] at h⟩
 | succ f ih=>
  obtain⟨a,b,c,d,e⟩:=ih;refine⟨λlv t x r h=>?_,λlv x t y r h=>?_,λt x r h=>?_,λt x r h=>?_,λl t x r h=>?_⟩
  ·rw [aj] at h;repeat' split at h
   all_goals grind
  ·rw [bK] at h;repeat' split at h
   all_goals grind
  ·rw [iw] at h;repeat' split at h
   all_goals grind
  ·rw [gF] at h;repeat' split at h
   all_goals grind
  ·rw [fZ] at h;repeat' split at h
   all_goals grind
def Am (r t:List Tok):Prop:=∀y∈r,y∈t
theorem Am.t {a b c:List Tok}(h:Am a b)(g:Am b c):Am a c:=λy d=>g y (h y d)
theorem Am.d {r t:List Tok}{n:Nat}(h:Am r (t.drop n)):Am r t:=λy a=>aaA (h y a)
theorem Am.e {r t:List Tok}{n:Nat}(h:Am r t):Am (r.drop n) t:=λy a=>h y (aaA a)
theorem Am.r (t:List Tok):Am t t:=λ_ h=>h
theorem Uo (f:Nat):(∀lv t x r,aj f lv t=some (x,r)->Am r t)∧(∀lv x t y r,bK f lv x t=some (y,r)->Am r t)∧(∀t x r,iw f t=some (x,r)->Am r t)∧
  (∀t x r,gF f t=some (x,r)->Am r t)∧(∀l t x r,fZ f l t=some (x,r)->Am r t):=by
 induction f with
 | zero=>exact⟨by intro _ _ _ _ h;simp [aj] at h,by intro _ _ _ _ _ h;simp [bK] at h,by intro _ _ _ h;simp [iw] at h,by intro _ _ _ h;simp [gF] at h,by intro _ _ _ _ h;simp [fZ] at h⟩
 | succ f ih=>
  obtain⟨a,b,c,g,i⟩:=ih;refine⟨λlv t x r h=>?_,λlv x t y r h=>?_,λt x r h=>?_,λt x r h=>?_,λl t x r h=>?_⟩
  ·rw [aj] at h;repeat' split at h
   all_goals grind [Am.t,Am.d,Am.e,Am.r]
  ·rw [bK] at h;repeat' split at h
   all_goals grind [Am.t,Am.d,Am.e,Am.r]
  ·rw [iw] at h;repeat' split at h
   all_goals grind [Am.t,Am.d,Am.e,Am.r]
  ·rw [gF] at h;repeat' split at h
   all_goals grind [Am.t,Am.d,Am.e,Am.r]
  ·rw [fZ] at h;repeat' split at h
   all_goals grind [Am.t,Am.d,Am.e,Am.r]
theorem ac8 {f:Nat}{k:Int}{t r:List Tok}{x:V4}(h:zK f k t=some (x,r)):Am r t:=by
 have:=(Uo f).1;unfold zK at h;repeat' split at h
 all_goals grind [Am.t,Am.d,Am.e,Am.r]
theorem ac9 {f:Nat}{t r:List Tok}{x:V4}(h:wW f t=some (x,r)):Am r t:=by
 obtain⟨a,b,c,g,i⟩:=Uo f;have:=@ac8 f;unfold wW at h;repeat' split at h
 all_goals grind [Am.t,Am.d,Am.e,Am.r]
theorem aec (f:Nat):(∀t x r,kY f t=some (x,r)->Am r t)∧(∀t x r,pU f t=some (x,r)->Am r t)∧(∀l t x r,qp f l t=some (x,r)->Am r t):=by
 induction f with
 | zero=>exact⟨by intro _ _ _ h;simp [kY] at h,by intro _ _ _ h;simp [pU] at h,by intro _ _ _ _ h;simp [qp] at h⟩
 | succ f ih=>
  obtain⟨a,b,c⟩:=ih;obtain⟨g,i,j,k,m⟩:=Uo f;have:=@ac9 f;refine⟨λt x r h=>?_,λt x r h=>?_,λl t x r h=>?_⟩
  ·rw [kY] at h;repeat' split at h
   all_goals grind [Am.t,Am.d,Am.e,Am.r]
  ·rw [pU] at h;repeat' split at h
   all_goals grind [Am.t,Am.d,Am.e,Am.r]
  ·rw [qp] at h;repeat' split at h
   all_goals grind [Am.t,Am.d,Am.e,Am.r]
set_option maxRecDepth 100000
set_option maxHeartbeats 1000000
theorem rD.tail {M:Mem}{S:Nat->Prop}{rs:Nat}{v:o7}{t:List o7}{ts:List (List o7)}(g:M.Ok)(h:rD M S rs v (t::ts)):
  ∃v' nb,(∀(y a:OF) (ls:List o7) (env:T o7),y ls env=v->a ls env=.int .i64 1->lSl rs y (some a) none ls env M.nx=some (v',nb))∧rD (dI M nb) (λi=>S i∨M.nx<=i) rs v' ts∧Ext M (dI M nb):=by
 rcases h with⟨_,h⟩ | ⟨id,o,h0,h1,h2,h3⟩;cases h;rcases h3 with h3 | ⟨n,rows,h4,h5,h6,h7⟩;cases h3;have e:ts=[]∨∃n rows,M.get id=some (.cells rs n rows)∧o+1+ts.length<=n∧(∀r,r∈ts->r.length=rs)∧∀i (h:i<ts.length),rows.get (o+1+i)=some ts[i]:=by refine .inr ⟨n,rows,h4,by simp at h5;omega,λr k=>h6 r (by simp [k]),λi m=>?_⟩;have:=h7 (i+1) (by simp;omega);rw [show o+1+i=o+(i+1) from by omega,this];rfl
 have j:Nat.add (o*rs) (Nat.mul 1 rs)=(o+1)*rs:=by rw [adU];rfl
 rcases h1 with⟨c,rfl,hc⟩ | rfl;have f:ts.length+1<=c:=by simpa using hc
 refine⟨.slice id (bi (Nat.beq 1 c) (o*rs) (Nat.add (o*rs) (Nat.mul 1 rs))) ts.length (c-1),none,λy a ls env d b=>?_,?_,Ext.refl g⟩;show jC (a ls env) (λl=>L9 M.nx rs (y ls env) l none)=_;rw [b,d];show bi (Nat.ble 1 (ts.length+1)) (bi (Nat.ble (ts.length+1) c) (some (o7.slice id (bi (Nat.beq 1 c) (o*rs) (Nat.add (o*rs) (Nat.mul 1 rs))) (Nat.sub (ts.length+1) 1) (Nat.sub c 1),none)) none) none=_;rw [show Nat.ble 1 (ts.length+1)=true from Q6 (by omega),show Nat.ble (ts.length+1) c=true from Q6 f];rfl;rw [dJ];by_cases hc1:1=c;rw [if_pos hc1];have:ts=[]:=Z8.1 (by omega);subst this;exact .inr ⟨id,o,.inl h0,.inl ⟨c-1,rfl,by simp⟩,h2,.inl rfl⟩;rw [if_neg hc1,j];exact .inr ⟨id,o+1,.inl h0,.inl ⟨c-1,rfl,by omega⟩,h2,e⟩;by_cases ht:ts=[];subst ht;refine⟨.sliceU M.nx 0 0 rs,some (.tail id),λy a ls env d b=>?_,?_,(Ext.refl g).new _⟩;show jC (a ls env) (λl=>L9 M.nx rs (y ls env) l none)=_;rw [b,d];show bi (Nat.beq rs rs) _ none=_;rw [show Nat.beq rs rs=true from aaz rs];rfl;exact .inr ⟨M.nx,0,.inr (aP _),.inr (by simp),by show M.nx<M.nx+1;omega,.inl rfl⟩;have p:=ael.2 ht;refine⟨.sliceU id (Nat.add (o*rs) (Nat.mul 1 rs)) ts.length rs,none,λy a ls env d b=>?_,?_,Ext.refl g⟩;show jC (a ls env) (λl=>L9 M.nx rs (y ls env) l none)=_;rw [b,d];show bi (Nat.ble 1 (ts.length+1)) (bi (Nat.ble (ts.length+1) (ts.length+1)) (bi (Nat.beq rs rs) (bi (Nat.blt 1 (ts.length+1)) (some (o7.sliceU id (Nat.add (o*rs) (Nat.mul 1 rs)) (Nat.sub (ts.length+1) 1) rs,none)) _) none) none) none=_;rw [show Nat.ble 1 (ts.length+1)=true from Q6 (by omega),show Nat.ble (ts.length+1) (ts.length+1)=true from Q6 (aP _),show Nat.beq rs rs=true from aaz rs,show Nat.blt 1 (ts.length+1)=true from Y3.mpr (by omega)];rfl;rw [j];exact .inr ⟨id,o+1,.inl h0,.inr rfl,h2,e⟩
structure RD (S:Nat->Prop)(p:Nat)(M:Mem)(toks:List Tok):Prop where
 ok:M.Ok
 lt:p<M.nx
 lim:M.lim<=p
 np:¬ S p
 has:∃v,M.get p=some (o9 [v])∧rD M S 2 v (U6 toks)
theorem RD.lF {S:Nat->Prop}{p:Nat}{M:Mem}{a:List Tok}(h:RD S p M a):M.lim<=M.nx:=gI h.lim (ahs h.lt)
theorem RD.ext {S:Nat->Prop}{p:Nat}{M M':Mem}{toks:List Tok}(h:RD S p M toks)(e:Ext M M'):RD S p M' toks:=by obtain⟨v,a,b⟩:=h.has;exact⟨e.ok,J3 h.lt e.nx,by rw [e.lim];exact h.lim,h.np,v,(e.old p h.lt).trans a,b.mono e.nx (λi c _=>e.old i c) λ_ _ h=>h⟩
theorem ML {x i:OF}{ls:List o7}{env:T o7}{b:UInt8}{s:By}(a:x ls env=.str (b::s))(hi:i ls env=.int .i64 0):vD x i ls env=some (.int .u8 (b.toNat:Nat)):=by show mO (x ls env) (λs=>jC (i ls env) λk=>ob (nO k s) λb=>some (o7.int .u8 b.toNat))=_;rw [a,hi];rfl
theorem afY {S:Nat->Prop}{p:Nat}{M:Mem}{a:List Tok}(h:RD S p M a)(b:UInt8)(s:By)(n fu:Nat):
  r9 KW fu (n+2) (.func 95) [.ptr p 0,.str (b::s)] M=some [⟨.bool (bC (b::s) a),M⟩]:=by
 obtain⟨v,o,r⟩:=h.has;have c:=r.slice.len;rw [show (U6 a).length=a.length from by simp [U6]] at c;have g:=Hy b n fu M;have q:=λx i ls env z y=>ML (x:=x) (i:=i) (ls:=ls) (env:=env) (b:=b) (s:=s) z y;rw [enter (sf:=f95) rfl rfl];cases a with
 | nil=>
  cases hk:jq b<;>rw [hk] at g <;>
  simp [f95,q,g,o,c,bC]
 | cons t ts=>
  obtain⟨k,x⟩:=t;obtain⟨m,C,u,D,E,w,F⟩:=r.slice.at (i:=0) (by simp [U6]);have f:=w 0 2 (by omega) (by omega);have j:lG v none (λid e d _=>if 0<d then some (o7.ptr id e) else none) (λid e d _=>if 0<d then some (o7.ptr id e) else none)=some (.ptr m C):=by simpa using u
  simp only [Y7,U6,Z5,ae4,uP,K9,adI,ahr] at f;have l:(0:Int)<((ts.length:Int)+1):=by omega
  have B:decide ((k:Int)=3)=decide (k=3):=by rw [aaH];simp only [decide_eq_true_eq];omega
  have A:decide ((k:Int)=1)=decide (k=1):=by rw [aaH];simp only [decide_eq_true_eq];omega
  cases hk:jq b<;>rw [hk] at g <;>
  simp [f95,q,g,o,c,l,j,f,bC,zJ,hk,C8,B,A]
theorem RD.drop {S:Nat->Prop}{p:Nat}{M:Mem}{t:Tok}{ts:List Tok}(h:RD S p M (t::ts)):∃v v' nb,M.get p=some (o9 [v])∧fT M 2 v (U6 (t::ts))∧(∀(y a:OF) (ls:List o7) (env:T o7),y ls env=v->a ls env=.int .i64 1->lSl 2 y (some a) none ls env M.nx=some (v',nb))∧Go.AM.H6 v'=true∧v'.cells=[v']∧(dI M nb).get p=some (o9 [v])∧
  (dI M nb).lim<=p∧bT p M ((dI M nb).set p (o9 [v']))∧RD (λi=>S i∨M.nx<=i) p ((dI M nb).set p (o9 [v'])) ts:=by
 obtain⟨v,j,k⟩:=h.has;obtain⟨v',nb,l,f,c⟩:=rD.tail (t:=uP t) (ts:=U6 ts) h.ok k;have b:p<(dI M nb).nx:=J3 h.lt c.nx;have g:∀i,S i∨M.nx<=i->i≠p:=λi d m=>by subst m;rcases d with d | d;exact h.np d;have:=h.lt;omega
 refine⟨v,v',nb,j,k.slice,l,f.slice.H6,f.slice.cells,(c.old p h.lt).trans j,by rw [c.lim];exact h.lim,⟨Mem.Ok.set c.ok b _,by simpa using c.nx,by simpa using c.lim,λi d n=>by rw [w9 c.ok _ b n,c.old i d]⟩,
  Mem.Ok.set c.ok b _,by simpa using b,by show (dI M nb).lim<=p;rw [c.lim];exact h.lim,λe=>by rcases e with e | e;exact h.np e;have:=h.lt;omega,v',D6 c.ok _ b rfl,f.mono (by simp) (λi d o=>w9 c.ok _ b (g i o)) λ_ _ h=>h⟩
theorem RD.wide {S S':Nat->Prop}{p:Nat}{M:Mem}{toks:List Tok}(h:RD S p M toks)(c:∀i,i<M.nx->S i->S' i)(hp:¬ S' p):RD S' p M toks:=by obtain⟨v,a,b⟩:=h.has;exact⟨h.ok,h.lt,h.lim,hp,v,a,b.mono (aP _) (λ_ _ _=>rfl) c⟩
theorem RD.since {S:Nat->Prop}{p:Nat}{M:Mem}{toks:List Tok}(h:RD S p M toks):RD (λi=>S i∨M.nx<=i) p M toks:=h.wide (λ_ _ h=>.inl h) λa=>by rcases a with a | a;exact h.np a;have:=h.lt;omega
theorem bT.refl' {p:Nat}{m:Mem}(h:m.Ok):bT p m m:=⟨h,aP _,rfl,λ_ _ _=>rfl⟩
theorem mo {S:Nat->Prop}{p:Nat}{M:Mem}{c:List Tok}(h:RD S p M c)(b:UInt8)(s:By)(n fu:Nat):
  ∃M',r9 KW fu (n+3) (.func 55) [.ptr p 0,.str (b::s)] M=some [⟨.bool (bC (b::s) c),M'⟩]∧bT p M M'∧RD (λi=>S i∨M.nx<=i) p M' (jL (b::s) c):=by
 have g:=afY h b s n fu;unfold jL;cases hp:bC (b::s) c with
 | false=>rw [hp] at g;refine⟨M,?_,bT.refl' h.ok,h.since⟩;rw [enter (sf:=f55) rfl rfl];simp [f55,g]
 | true=>
  rw [hp] at g;cases c with
  | nil=>cases hp
  | cons t ts=>obtain⟨v,C,B,f,A,j,k,l,m,o,q,r⟩:=h.drop;have z:=sB o;have e:=λy a x d w u=>j y a x d w u;refine⟨_,?_,q,r⟩;rw [enter (sf:=f55) rfl rfl];simp [f55,g,f,e,k,l,m,z]
theorem aq2 {x:OF}{cf:F8}{ls:List o7}{env:T o7}{m:Mem}{t:Nat}{w:o7}(h:x ls env=.iface t w):tH x cf ls env m=some [⟨.nN (.iface t w),m⟩]:=by show Xu (x ls env) m=_;rw [h];rfl
def panics:o7:=.nN (.iface 58 (.agg []))
theorem CX {S:Nat->Prop}{p:Nat}{M:Mem}{a:List Tok}(h:RD S p M a)(b:UInt8)(s:By)(n fu:Nat):
  ∃M',r9 KW fu (n+4) (.func 59) [.ptr p 0,.str (b::s)] M=some [⟨if bC (b::s) a then .tuple [] else panics,M'⟩]∧bT p M M'∧RD (λi=>S i∨M.nx<=i) p M' (jL (b::s) a):=by
 obtain⟨M',g,c,d⟩:=mo h b s n fu;refine⟨M',?_,c,d⟩;have e:=λx cf ls env m h=>aq2 (x:=x) (cf:=cf) (ls:=ls) (env:=env) (m:=m) (t:=58) (w:=.agg []) h;rw [enter (sf:=f59) rfl rfl];cases hp:bC (b::s) a<;>rw [hp] at g<;>simp [f59,g,panics,e]
theorem Zq {m:Mem}{v:o7}{s:By}{cf:F8}{fu:Nat}(l:List By)(z:l.length<=1000)(x:mZ m v (strs l)):
  ∀(j i:Nat),i+j=l.length->∀(c3 c5 c6:o7) (N:Nat),j+1<=N->
  (s∉l.drop i∧∃c3' c5' c6',K8 (λenv m k=>qZ cf fu none env m k) N (BL v (iV (i:Int)) (iV (l.length:Int)) c3 (.str s) c5 c6 (iV 0)) m []=some [⟨.exit 0,(BL v (iV (l.length:Int)) (iV (l.length:Int)) c3' (.str s) c5' c6' (iV 0)),m,[],none⟩])∨
  (s∈l.drop i∧∃(x1 x3 x5 x6:o7) (j:Nat),K8 (λenv m k=>qZ cf fu none env m k) N (BL v (iV (i:Int)) (iV (l.length:Int)) c3 (.str s) c5 c6 (iV 0)) m []=some [⟨.ret,(BL v x1 (iV (l.length:Int)) x3 (.str s) x5 x6 (iV (j:Int))),m,[],none⟩]):=by
 intro j;induction j with
 | zero=>
  intro i u c3 c5 c6 N r;obtain⟨N,rfl⟩:∃k,N=k+1:=⟨N-1,by omega⟩;obtain rfl:i=l.length:=by omega
  refine .inl ⟨by simp,.bool false,c5,c6,?_⟩;rw [A8];simp [qZ]
 | succ j ih=>
  intro i u c3 c5 c6 N r;obtain⟨N,rfl⟩:∃k,N=k+1:=⟨N-1,by omega⟩;have d:i<l.length:=by omega
  have e:(i:Int)<(l.length:Int):=by omega
  obtain⟨id,c,q,y,n⟩:=x.at (i:=i) (by rw [wO];omega);have p:(strs l)[i]'(by rw [wO];exact d)=.str l[i]:=List.getElem_map ..;rw [p] at n;have g:lG v none (λid c f _=>idx f (iV (i:Int)) λk=>some (o7.ptr id (c+k))) (λid c f _=>idx f (iV (i:Int)) λk=>some (o7.ptr id (c+k)))=some (.ptr id c):=by simpa using q
  have t:l.drop i=l[i]::l.drop (i+1):=Z6 d;rw [t];by_cases hs:s=l[i];refine .inr ⟨by rw [hs];exact ab1,iV (i:Int),.bool true,iV (i:Int),.bool true,i,?_⟩;rw [A8];simp [qZ,d,e,g,n,← hs,C8];have o:=ih (i+1) (by omega) tt (iV (i:Int)) ff N (by omega);have h:K8 (λenv m k=>qZ cf fu none env m k) (N+1) (BL v (iV (i:Int)) (iV (l.length:Int)) c3 (.str s) c5 c6 (iV 0)) m []=K8 (λenv m k=>qZ cf fu none env m k) N (BL v (.int .i64 ((i+1:Nat):Int)) (iV (l.length:Int)) tt (.str s) (iV (i:Int)) ff (iV 0)) m []:=by rw [A8];simp [qZ,d,e,g,n,hs,C8,aF (i:=i) (by omega)]
  rw [h];rcases o with⟨a,b⟩ | ⟨a,b⟩;exact .inl ⟨λw=>(Y4.1 w).elim hs a,b⟩;exact .inr ⟨Z4 _ a,b⟩
theorem acd {m:Mem}{v:o7}{s:By}(l:List By)(i:l.length<=1000)(f:mZ m v (strs l))(n fu:Nat)(h:2000<=fu):
  r9 KW fu (n+2) (.func 227) [v,.str s] m=some [⟨.bool (decide (s∈l)),m⟩]:=by
 have b:=f.len;rw [wO] at b;have e:(s∉l∧r9 KW fu (n+1) (.func 292) [v,.str s] m=some [⟨iV (-1),m⟩])∨(s∈l∧∃j:Nat,r9 KW fu (n+1) (.func 292) [v,.str s] m=some [⟨iV (j:Int),m⟩]):=by rcases Zq (s:=s) (cf:=r9 KW fu n) (fu:=fu) l i f l.length 0 (by omega) .undef .undef .undef fu (by omega) with⟨a,c3',c5',c6',g⟩ | ⟨a,x1,x3,x5,x6,j,g⟩;have d:K8 (λc m k=>qZ (r9 KW fu n) fu none c m k) fu (BL v (iV 0) (iV (l.length:Int)) .undef (.str s) .undef .undef (iV 0)) m []=_:=g;refine .inl ⟨by simpa using a,?_⟩;rw [enter (sf:=f292) rfl rfl];simp [f292,b,d];have d:K8 (λc m k=>qZ (r9 KW fu n) fu none c m k) fu (BL v (iV 0) (iV (l.length:Int)) .undef (.str s) .undef .undef (iV 0)) m []=_:=g;refine .inr ⟨by simpa using a,j,?_⟩;rw [enter (sf:=f292) rfl rfl];simp [f292,b,d]
 rw [enter (sf:=f227) rfl rfl];rcases e with⟨a,g⟩ | ⟨a,j,g⟩;simp [f227,g,a];have:(0:Int)<=(j:Int):=by omega
 simp [f227,g,a,this]
theorem bs8 (ls:List o7)(env:T o7)(nid:Nat):P7 1 8 [.str []] [(0,1,G6 (.str [108,101,116])),(1,1,G6 (.str [105,102])),(2,1,G6 (.str [101,108,115,101])),(3,1,G6 (.str [119,104,105,108,101])),(4,1,G6 (.str [112,114,105,110,116])),(5,1,G6 (.str [97,110,100])),(6,1,G6 (.str [111,114])),(7,1,G6 (.str [110,111,116]))] ls env nid=some (.slice nid 0 8 8,some (.cells 1 8 (T.ofList ((strs rsv).map ([·]))))):=rfl
theorem Uq {m:Mem}(b:m.Ok)(s:By)(n fu:Nat)(a:2000<=fu):∃m',r9 KW fu (n+3) (.func 177) [.str s] m=some [⟨.bool (HV s),m'⟩]∧Ext m m':=by
 have E:=H7 b [.cells 1 8 (T.ofList ((strs rsv).map ([·])))];have c:mZ (ext m [.cells 1 8 (T.ofList ((strs rsv).map ([·])))]) (.slice m.nx 0 8 8) (strs rsv):=Zh b (strs rsv);have g:=acd (s:=s) rsv (by decide) c n fu a;have e:decide (s∈rsv)=HV s:=by unfold HV;rw [aiX]
 rw [e] at g;refine⟨_,?_,E⟩;rw [enter (sf:=f177) rfl rfl];simp [f177,D7,F6,bs8,g]
theorem Zr {S:Nat->Prop}{p:Nat}{M:Mem}{a:List Tok}(h:RD S p M a)(n fu:Nat)(q:2000<=fu):
  ∃M',r9 KW fu (n+4) (.func 99) [.ptr p 0] M=some [⟨.bool (fV a),M'⟩]∧Ext M M':=by
 obtain⟨v,o,w⟩:=h.has;have b:=w.slice.len;rw [show (U6 a).length=a.length from by simp [U6]] at b;cases a with
 | nil=>refine⟨M,?_,Ext.refl h.ok⟩;rw [enter (sf:=f99) rfl rfl];simp [f99,o,b,fV]
 | cons t ts=>
  obtain⟨k,x⟩:=t;obtain⟨c,s,y,B,C,D,u⟩:=w.slice.at (i:=0) (by simp [U6]);have z:=u 0 (by omega);have A:=u 1 (by omega);have f:lG v none (λid e d _=>if 0<d then some (o7.ptr id e) else none) (λid e d _=>if 0<d then some (o7.ptr id e) else none)=some (.ptr c s):=by simpa using y
  have j:ld1 (M.get c) s=some (iV (k:Int)):=z;have l:ld1 (M.get c) (s+1)=some (.str x):=A;have m:(0:Int)<((ts.length:Int)+1):=by omega
  obtain⟨M',g,E⟩:=Uq h.ok x n fu q;by_cases hk:k=1;subst hk;refine⟨M',?_,E⟩;rw [enter (sf:=f99) rfl rfl];simp [f99,o,b,m,f,j,l,g,fV];have r:¬ (k:Int)=1:=by omega
  refine⟨M,?_,Ext.refl h.ok⟩;rw [enter (sf:=f99) rfl rfl];simp [f99,o,b,m,f,j,l,fV,hk,r]
theorem Nh {S:Nat->Prop}{p:Nat}{M:Mem}{b:List Tok}(h:RD S p M b)(n fu:Nat)(s:2000<=fu):
  ∃M',r9 KW fu (n+5) (.func 100) [.ptr p 0] M=some [⟨if fV b then .str (b.headD (0,[])).2 else panics,M'⟩]∧bT p M M'∧(fV b=true->RD (λi=>S i∨M.nx<=i) p M' (b.drop 1)):=by
 obtain⟨M1,g,E⟩:=Zr h n fu s;have EB:bT p M M1:=⟨E.ok,E.nx,E.lim,λi f _=>E.old i f⟩;cases c:fV b with
 | false=>rw [c] at g;refine⟨M1,?_,EB,λh=>by cases h⟩;rw [enter (sf:=f100) rfl rfl];simp [f100,g,panics]
 | true=>
  rw [c] at g;cases b with
  | nil=>cases c
  | cons t ts=>
   have N:=h.ext E;obtain⟨v,W,V,C,D,F,G,H,I,J,l,K⟩:=N.drop;obtain⟨k,x⟩:=t;obtain⟨j,w,z,R,T,U,A⟩:=D.at (i:=0) (by simp [U6]);have B:=A 1 (by omega);have m:lG v none (λid e d _=>if 0<d then some (o7.ptr id e) else none) (λid e d _=>if 0<d then some (o7.ptr id e) else none)=some (.ptr j w):=by simpa using z
   have o:ld1 (M1.get j) (w+1)=some (.str x):=B;have Q:=sB J;have r:=λy a P q O L=>F y a P q O L;refine⟨_,?_,⟨l.ok,gI EB.nx l.nx,l.lim.trans EB.lim,λi f u=>(l.old i (J3 f EB.nx) u).trans (EB.old i f u)⟩,λ_=>K.wide (λi _ f=>f.imp id λh=>gI E.nx h) λc=>by rcases c with c | c;exact h.np c;have:=h.lt;omega⟩
   rw [enter (sf:=f100) rfl rfl];simp [f100,g,C,m,o,r,G,H,I,Q]
theorem Ww {m:Mem}(a:m.Ok):∀n,Ext m (V5 n m)∧True:=by
 intro n;induction n generalizing m with
 | zero=>exact⟨Ext.refl a,trivial⟩
 | succ n ih=>exact⟨((Ext.refl a).new _).trans (ih (Mem.Ok.new a _)).1,trivial⟩
theorem SH {b:Option P9}{off:Nat}{l:o7}(h:ld1 b off=some l){β:Type}(f:o7->Option β):P6 b (λrs n rows=>ob (cell1 rs n rows off) f)=f l:=by
 have h:P6 b (λrs n rows=>cell1 rs n rows off)=some l:=h;match b,h with
 | some (.cells rs n rows),h=>show ob (cell1 rs n rows off) f=_;have h:cell1 rs n rows off=some l:=h;rw [h];rfl
theorem SI {b:Option P9}{off k:Nat}{l:List o7}(h:AO b off k=some (.agg l)){β:Type}(f:List o7->Option β):P6 b (λrs n rows=>ob (gK rs n rows off k) f)=f l:=by
 have h:P6 b (λrs n rows=>ob (gK rs n rows off k) λl=>some (o7.agg l))=some (.agg l):=h;match b,h with
 | some (.cells rs n rows),h=>
  show ob (gK rs n rows off k) f=_;have h:ob (gK rs n rows off k) (λl=>some (o7.agg l))=some (.agg l):=h;cases hc:gK rs n rows off k with
  | none=>rw [hc] at h;cases h
  | some x=>rw [hc] at h;cases h;rfl
theorem afZ {S:Nat->Prop}{p:Nat}{M:Mem}{a:List Tok}(h:RD S p M a)(lv:Int)(n fu:Nat):
  ∃M',r9 KW fu (n+1) (.func 97) [.ptr p 0,iV lv] M=some [⟨.int .i64 ((Zp lv a).getD 0),M'⟩]∧bT p M M'∧RD (λi=>S i∨M.nx<=i) p M' (if (Zp lv a).isSome then a.drop 1 else a):=by
 obtain⟨v,I,z⟩:=h.has;have D:=(Ww h.ok 2).1;have l:∀outs,dD [.ptr p 0,iV lv] M=some outs->r9 KW fu (n+1) (.func 97) [.ptr p 0,iV lv] M=some outs:=λouts R=>by rw [eT];have C:KW.eff 97 [.ptr p 0,iV lv] M=some outs:=R;simp only [C]
 have g:=z.slice.lenOf;rw [show (U6 a).length=a.length from by simp [U6]] at g;have H:dD [.ptr p 0,iV lv] M=Nat.rec (lG v (one (iV 0) (V5 2 M)) (λ_ _ _ _=>one (iV 0) (V5 2 M)) (λ_ _ _ _=>one (iV 0) (V5 2 M))) (λ_ _=>lG v none (λid o _ _=>dD.tok M id o v p 0 lv) (λid o _ _=>dD.tok M id o v p 0 lv)) a.length:=by
  show P6 (M.get p) (λrs n u=>ob (cell1 rs n u 0) λv=>ob (lenOf v) λj=>_)=_;have E:ld1 (M.get p) 0=some v:=by rw [I];simp
  rw [SH E,g];rfl
 cases a with
 | nil=>
  have O:dD [.ptr p 0,iV lv] M=some [⟨iV 0,V5 2 M⟩]:=by rw [H];show lG v (one (iV 0) (V5 2 M)) (λ_ _ _ _=>one (iV 0) (V5 2 M)) (λ_ _ _ _=>one (iV 0) (V5 2 M))=_;rcases z.slice with⟨rfl,_⟩ | ⟨id,o,⟨c,rfl,_⟩ | rfl,_⟩<;>rfl
  exact⟨_,l _ O,⟨D.ok,D.nx,D.lim,λi f _=>D.old i f⟩,(h.ext D).wide (λi _ f=>.inl f) λb=>by rcases b with b | b;exact h.np b;have:=h.lt;omega⟩
 | cons t ts=>
  obtain⟨k,x⟩:=t;obtain⟨s,o1,L,a2,a3,N,a5⟩:=z.slice.at (i:=0) (by simp [U6]);have r:=N 0 2 (by omega) (by omega);simp only [Y7,U6,Z5,ae4,uP,K9,adI,ahr] at r;have d:lG v none (λid m j _=>if 0<j then some (o7.ptr id m) else none) (λid m j _=>if 0<j then some (o7.ptr id m) else none)=some (.ptr s o1):=by simpa using L
  have P:∀T:Nat->Nat->dU,lG v none (λid o _ _=>T id o) (λid o _ _=>T id o)=T s o1:=λT=>by
   rcases z.slice with⟨rfl,h⟩ | ⟨id,o,⟨c,rfl,_⟩ | rfl,_⟩;cases h;simp only [sj] at d ⊢;split at d<;>cases d
   rfl;simp only [pG] at d ⊢;split at d<;>cases d
   rfl
  have y:dD [.ptr p 0,iV lv] M=Option.rec (one (iV 0) (V5 2 M)) (λB=>ob (L9 (V5 2 M).nx 2 v 1 none) λq=>storeAt (dI (V5 2 M) q.2) p 0 [q.1] λG=>one (iV B) G) (nH lv (k:Int) x):=by rw [H];show lG v none (λid o _ _=>dD.tok M id o v p 0 lv) (λid o _ _=>dD.tok M id o v p 0 lv)=_;rw [P];unfold dD.tok;rw [SI r]
  show ∃M',r9 KW fu (n+1) (.func 97) [.ptr p 0,iV lv] M=some [⟨.int .i64 ((nH lv (k:Int) x).getD 0),M'⟩]∧bT p M M'∧RD (λi=>S i∨M.nx<=i) p M' (if (nH lv (k:Int) x).isSome then ((k,x)::ts).drop 1 else (k,x)::ts);cases ho:nH lv (k:Int) x with
  | none=>rw [ho] at y;exact⟨_,l _ y,⟨D.ok,D.nx,D.lim,λi f _=>D.old i f⟩,(h.ext D).wide (λi _ f=>.inl f) λb=>by rcases b with b | b;exact h.np b;have:=h.lt;omega⟩
  | some B=>
   rw [ho] at y;obtain⟨w,K,J,W,k2,X,Y,k5,Z,k7,A,k9⟩:=(h.ext D).drop;have V:w=v:=by have:=(D.old p h.lt).trans I;rw [W] at this;cases this;rfl
   subst V;have F:L9 (V5 2 M).nx 2 w 1 none=some (K,J):=X (λ_ _=>w) (λ_ _=>.int .i64 1) [] .e rfl rfl;have Q:dD [.ptr p 0,iV lv] M=some [⟨iV B,(dI (V5 2 M) J).set p (o9 [K])⟩]:=by rw [y];show ob (L9 (V5 2 M).nx 2 w 1 none) (λq=>storeAt (dI (V5 2 M) q.2) p 0 [q.1] λG=>one (iV B) G)=_;rw [F,O0,pJ k7];simp [Y,Z,one]
   refine⟨_,l _ Q,⟨A.ok,gI D.nx A.nx,A.lim.trans D.lim,λi f U=>(A.old i (J3 f D.nx) U).trans (D.old i f)⟩,?_⟩;exact k9.wide (λi _ f=>f.imp id λh=>gI D.nx h) λb=>by rcases b with b | b;exact h.np b;have:=h.lt;omega
set_option maxHeartbeats 2000000
def Ur (t:List Tok):Prop:=∀x∈t,x.1=2->Lib.atoiAll x.2=.ok (nX x.2:Nat)∧x.2.length<1000000
theorem Ur.drop {t:List Tok}(h:Ur t)(n:Nat):Ur (t.drop n):=λx a=>h x (aaA a)
def ajU (S:Nat->Prop)(p:Nat)(M:Mem)(r:Option (Ex×List Tok))(o:dU):Prop:=match r with
 | none=>∃M',o=some [⟨panics,M'⟩]∧bT p M M'
 | some (e,t)=>∃row M',o=some [⟨.agg row,M'⟩]∧bT p M M'∧aS M' (λi=>M.nx<=i) e row∧RD (λi=>S i∨M.nx<=i) p M' t
def ajV (S:Nat->Prop)(p:Nat)(M:Mem)(r:Option (List Ex×List Tok))(o:dU):Prop:=match r with
 | none=>∃M',o=some [⟨panics,M'⟩]∧bT p M M'
 | some (l,t)=>∃v M',o=some [⟨v,M'⟩]∧bT p M M'∧jK M' (λi=>M.nx<=i) l v∧RD (λi=>S i∨M.nx<=i) p M' t
def CE (f:Nat):Prop:=∀(lv n fu p:Nat) (t:List Tok) (S:Nat->Prop) (M:Mem),RD S p M t->Ur t->t.length<=10000->lv<=6->10*t.length+9<=f+lv->f+20<=n->20000<=fu->
 ajU S p M (aj f lv t) (r9 KW fu n (.func 56) [.ptr p 0,iV (lv:Int)] M)
def CP (f:Nat):Prop:=∀(n fu p:Nat) (t:List Tok) (S:Nat->Prop) (M:Mem),RD S p M t->Ur t->t.length<=10000->10*t.length+2<=f->f+20<=n->20000<=fu->
 ajU S p M (iw f t) (r9 KW fu n (.func 96) [.ptr p 0] M)
def CA (f:Nat):Prop:=∀(n fu p:Nat) (t:List Tok) (S:Nat->Prop) (M:Mem),RD S p M t->Ur t->t.length<=10000->10*t.length+10<=f->f+20<=n->20000<=fu->
 ajV S p M (gF f t) (r9 KW fu n (.func 98) [.ptr p 0] M)
theorem RD.mono {S S':Nat->Prop}{p:Nat}{M M':Mem}{t:List Tok}(h:RD S p M t)(ok:M'.Ok)(b:M.nx<=M'.nx)(f:M'.lim=M.lim)(hp:M'.get p=M.get p)(g:∀i,i<M.nx->S i->M'.get i=M.get i)(e:∀i,i<M.nx->S i->S' i)(a:¬ S' p):RD S' p M' t:=by obtain⟨v,c,d⟩:=h.has;exact⟨ok,J3 h.lt b,by rw [f];exact h.lim,a,v,hp.trans c,d.mono b g e⟩
theorem wY (z:List o7)(ps:List (Nat×Nat×OF))(ls:List o7)(env:T o7)(nid:Nat)(h:z.length=4):P7 4 1 z ps ls env nid=ob (lay ps ls env z) λcells=>if cells.length=4 then some (.slice nid 0 1 1,some (o9 cells)) else none:=iZ 4 z ps ls env nid h
theorem Ni {row:List o7}(h:row.length=4){x:OF}{ls:List o7}{env:T o7}(a:x ls env=.agg row):lay [(0,4,x)] ls env (r4 0 0 [] nS)=some row:=by rw [Mq];simp only [a,Cz,h];simp [h]
theorem pV (f lv:Nat)(t:List Tok)(x:Ex)(r:List Tok)(h:aj f lv t=some (x,r))(y:Tok)(a:y∈r):y∈t:=(Uo f).1 lv t x r h y a
structure Acc (lo:Nat)(S T:Nat->Prop)(M:Mem)(v:o7)(l:List Ex):Prop where
 own:∃rows,bZ lo 4 M v rows∧I7 M T l rows
 apartT:∀i o n e,v=.sliceU i o n e->¬ T i
 apartS:∀i o n e,v=.sliceU i o n e->¬ S i
 WQ:∀i,T i->lo<=i
theorem ace {f n fu p lo:Nat}(hE:∀k,k<=f->CE k)(hn:f+20<=n)(hfu:20000<=fu)(hpl:p<lo):∀(k:Nat),k<=f+1->∀(t:List Tok) (acc:List Ex) (v c1:o7) (S T:Nat->Prop) (M:Mem) (N:Nat),RD S p M t->Ur t->t.length<=10000->acc.length+t.length<=10010->10*t.length+1<=k->
  Acc lo S T M v acc->lo<=M.nx->M.lim<=lo->t.length+1<=N->
  match fZ k acc t with
  | none=>∃c1' v' M',K8 (λenv m k=>DZ (r9 KW fu n) fu none env m k) N (Wp (.ptr p 0) c1 v nS) M []=some [⟨.ret,(Wp (.ptr p 0) c1' v' nS),M',[],some (.iface 58 (.agg []))⟩]∧Fr lo p M M'
  | some (l,r)=>∃c1' v' M' T',K8 (λenv m k=>DZ (r9 KW fu n) fu none env m k) N (Wp (.ptr p 0) c1 v nS) M []=some [⟨.exit 0,(Wp (.ptr p 0) c1' v' nS),M',[],none⟩]∧Fr lo p M M'∧Acc lo (λi=>False) T' M' v' l∧RD (λi=>S i∨M.nx<=i) p M' r:=by
 intro k;induction k with
 | zero=>intro hk t acc v c1 S T M N hR hW ht hac hm;omega
 | succ k ih=>
  intro hk t acc v c1 S T M N hR hW ht hac hm hA hlo hlim hN;obtain⟨N,rfl⟩:∃k,N=k+1:=⟨N-1,by omega⟩;obtain⟨n',rfl⟩:∃k,n=k+3:=⟨n-3,by omega⟩;obtain⟨M1,g1,X1,R1⟩:=mo hR 44 [] n' fu;rw [fZ];unfold jL at R1;obtain⟨rows,o1,o2⟩:=hA.own;have tp:∀i,T i->i≠p:=λi hi=>by have:=hA.WQ i hi;omega
  have rowsM1:bZ lo 4 M1 v rows:=o1.keep X1.nx λi h1 h2=>X1.old i h2 (by omega);have treeM1:I7 M1 T acc rows:=I7.mono X1.nx (λi hi ht=>X1.old i hi (tp i ht)) (λ_ _ h=>h) _ _ o2;cases hp:bC [44] t with
  | false=>rw [hp] at g1 R1;simp only [Xd,if_false] at R1 ⊢;refine⟨.bool false,v,M1,T,?_,X1.fr hlo,⟨⟨rows,rowsM1,treeM1⟩,hA.apartT,λ_ _ _ _ _ h=>h,hA.WQ⟩,R1⟩;rw [A8];simp [DZ,g1]
  | true=>
   have hl:=aR hp;rw [hp] at g1 R1;simp only [if_true] at R1 ⊢;have hx:=hE k (by omega) 0 (n'+3) fu p (t.drop 1) _ M1 R1 (hW.drop 1) (by simp;omega) (by omega) (by simp;omega) (by omega) hfu;cases hq:aj k 0 (t.drop 1) with
   | none=>rw [hq] at hx;obtain⟨M2,g2,X2⟩:=hx;simp only;refine⟨.bool true,v,M2,?_,(X1.trans X2).fr hlo⟩;have g2':r9 KW fu (n'+3) (.func 56) [.ptr p 0,iV 0] M1=_:=g2;rw [A8];simp [DZ,g1,g2',panics]
   | some q=>
    obtain⟨y,r⟩:=q;rw [hq] at hx;obtain⟨row,M2,g2,X2,hr,R2⟩:=hx;simp only;have hr4:=hr.row;have E3:=H7 X2.ok [o9 row];have vlt:∀i o n e,v=.sliceU i o n e->lo<=i∧i<M.nx:=λi o n e hv=>o1.lt hv;have X12:=X1.trans X2;have rowsM3:bZ lo 4 (ext M2 [o9 row]) v rows:=(rowsM1.keep X2.nx λi h1 h2=>X2.old i h2 (by omega)).ext E3;have hxr:fT (ext M2 [o9 row]) 4 (.slice M2.nx 0 1 1) [row]:=by have:=zx X2.ok row (by omega);rw [hr4.1] at this;exact this
    have n3:(ext M2 [o9 row]).nx=M2.nx+1:=(by simp);have hrl:=I7.len o2;obtain⟨v5,M5,gb,ho5,F5,old5⟩:=EO (lo:=lo) (rs:=4) (bytes:=56) (r:=row) E3.ok (by rw [E3.lim,X12.lim];exact hlim) (by have:=X12.nx;omega) (by omega) rowsM3 hxr hr4.1 hr4.2 (by rw [hrl];omega) ⟨by omega,by omega⟩;have po:=Jp ho5.slice;have g5:∀i,i<M2.nx->(∀o n e,v≠.sliceU i o n e)->M5.get i=M2.get i:=λi hi hv=>(by rw [old5 i (by omega) hv,E3.old i hi]);have hM1:=X1.nx;have hM2:=X2.nx;have hacc:Acc lo (λi=>(S i∨M.nx<=i)∧i<M2.nx+1) (λi=>(T i∨M1.nx<=i)∧i<M2.nx+1) M5 v5 (acc ++ [y]):=by
     refine⟨⟨rows ++ [row],ho5.down (by omega),I7.snoc ?_ ?_⟩,λi o n e hv h=>?_,λi o n e hv h=>?_,λi h=>?_⟩;refine I7.mono (by have:=F5.nx;omega) (λi hi ht=>?_) (λi hi ht=>⟨.inl ht,by omega⟩) _ _ treeM1;rw [g5 i (by omega) (λo n e hv=>hA.apartT i o n e hv ht),X2.old i hi (tp i ht)];refine aS.mono (by have:=F5.nx;omega) (λi hi ht=>?_) (λi hi ht=>⟨.inr ht,by omega⟩) _ _ hr;exact g5 i hi λo n e hv=>by have:=(vlt i o n e hv).2;omega
     have:=(ho5.lt hv).1;rw [n3] at this;omega;have:=(ho5.lt hv).1;rw [n3] at this;omega;rcases h.1 with h | h;exact hA.WQ i h;omega
    have hnp:¬ ((S p∨M.nx<=p)∧p<M2.nx+1):=λh=>by rcases h.1 with h | h;exact hR.np h;omega
    have R5:RD (λi=>(S i∨M.nx<=i)∧i<M2.nx+1) p M5 r:=by refine R2.mono F5.ok (by have:=F5.nx;omega) (F5.lim.trans E3.lim) (g5 p R2.lt λo n e hv=>by have:=(vlt p o n e hv).1;omega) (λi hi hs=>g5 i hi λo n e hv=>?_) (λi hi hs=>⟨?_,by omega⟩) hnp;have:=vlt i o n e hv;rcases hs with hs | hs;rcases hs with hs | hs;exact hA.apartS i o n e hv hs;omega;omega;rcases hs with hs | hs;exact hs;exact .inr (by omega)
    have hrl2:=(uq k).1 _ _ _ _ hq;simp at hrl2;have Fall:Fr lo p M M5:=((X12.fr hlo).trans (E3.fr (by omega))).trans (F5.mono (aP _));have step:∀N,K8 (λenv m k=>DZ (r9 KW fu (n'+3)) fu none env m k) (N+1) (Wp (.ptr p 0) c1 v nS) M []=K8 (λenv m k=>DZ (r9 KW fu (n'+3)) fu none env m k) N (Wp (.ptr p 0) tt v5 nS) M5 []:=λN=>by have g2':r9 KW fu (n'+3) (.func 56) [.ptr p 0,iV 0] M1=_:=g2;have l4:=λx ls env hx=>Ni hr4.1 (x:=x) (ls:=ls) (env:=env) hx;rw [A8];simp [DZ,D7,g1,g2',wY,l4,hr4.1,gb,po]
    have hrec:=ih (by omega) r (acc ++ [y]) v5 tt _ _ M5 N R5 (λx hx=>?_) (by omega) (by simp;omega) (by omega) hacc (by have:=F5.nx;omega) (by rw [F5.lim,E3.lim,X12.lim];exact hlim) (by omega);rw [step];cases hm:fZ k (acc ++ [y]) r with
    | none=>rw [hm] at hrec;obtain⟨c1',v',M',g,F⟩:=hrec;exact⟨c1',v',M',g,Fall.trans F⟩
    | some q=>rw [hm] at hrec;obtain⟨c1',v',M',T',g,F,A,R⟩:=hrec;refine⟨c1',v',M',T',g,Fall.trans F,A,R.wide (λi hi hs=>?_) λhp=>by rcases hp with hp | hp;exact hR.np hp;omega⟩;rcases hs with hs | hs;exact hs.1;exact .inr (by have:=F5.nx;omega)
    exact hW x (pV k 0 _ _ _ hq x hx |> aaA)
theorem acf {m:Mem}{lo rs:Nat}{row:List o7}(f:m.Ok)(a:lo<=m.nx)(c:row.length=rs)(d:N7 row=true)(hp:0<rs):bZ lo rs (m.new (o9 row)) (.slice m.nx 0 1 1) [row]:=by
 have b:=TW (m:=m) f (rs:=rs) hp (l:=[row]) (by simpa using c);have e:(P9.cells rs [row].length (T.ofList [row]))=o9 row:=by subst c;show P9.cells _ 1 _=P9.cells (len' row) 1 _;rw [I9];rfl
 rw [e] at b;exact .inr ⟨m.nx,a,by simp,by simpa using d,b,by simp,.inl rfl⟩
theorem Fr.toB {lo p:Nat}{a b c:Mem}(h:bT p a b)(k:Fr lo p b c)(f:a.nx<=lo):bT p a c:=⟨k.ok,gI h.nx k.nx,k.lim.trans h.lim,λi e d=>(k.old i (by omega) d).trans (h.old i e d)⟩
theorem acg {f:Nat}(H:∀k,k<=f->CE k):CA (f+1):=by
 intro n fu p t S M z I R V W u;obtain⟨n,rfl⟩:∃k,n=k+1:=⟨n-1,by omega⟩;have j:=H f (aP _) 0 n fu p t S M z I R (by omega) (by omega) (by omega) u;rw [gF];cases hq:aj f 0 t with
 | none=>rw [hq] at j;obtain⟨M1,B,X1⟩:=j;have c:r9 KW fu n (.func 56) [.ptr p 0,iV 0] M=_:=B;refine⟨M1,?_,X1⟩;rw [enter (sf:=f98) rfl rfl];simp [f98,c,panics]
 | some q=>
  obtain⟨y,r⟩:=q;rw [hq] at j;obtain⟨a,M1,B,X1,J,R1⟩:=j;have c:r9 KW fu n (.func 56) [.ptr p 0,iV 0] M=_:=B;have b:=J.row;have E2:=H7 X1.ok [o9 a];have X:(ext M1 [o9 a]).nx=M1.nx+1:=by simp
  have C:=X1.nx;have E:=z.lt;have P:=acf X1.ok (lo:=M.nx) C b.1 b.2 (by omega);have m:Acc M.nx (λi=>(S i∨M.nx<=i)) (λi=>M.nx<=i∧i<M1.nx) (ext M1 [o9 a]) (.slice M1.nx 0 1 1) [y]:=
   ⟨⟨[a],P,a,[],rfl,aS.mono E2.nx (λi D _=>E2.old i D) (λi D h=>⟨h,D⟩) _ _ J,rfl⟩,λi o n e G=>(by cases G),λi o n e G=>(by cases G),λi h=>h.1⟩
  have R2:=R1.ext E2;have Q:=(uq f).1 _ _ _ _ hq;have w:=ace (f:=f) (n:=n) (fu:=fu) (p:=p) (lo:=M.nx) H (by omega) u E f (by omega) r [y] (.slice M1.nx 0 1 1) .undef (_) _ (ext M1 [o9 a]) fu R2 (λx j=>I x (pV f 0 _ _ _ hq x j)) (by omega) (by simp;omega) (by omega) m (by omega) (by rw [E2.lim,X1.lim];exact z.lF) (by omega);have K:=λx ls env j=>Ni b.1 (x:=x) (ls:=ls) (env:=env) j;simp only;cases hp:fZ f [y] r with
  | none=>rw [hp] at w;obtain⟨A,N,M',g,F⟩:=w;refine⟨M',?_,Fr.toB (X1.trans E2.toB) F (aP _)⟩;rw [enter (sf:=f98) rfl rfl];simp [f98,D7,c,wY,K,b.1,g,panics]
  | some q=>
   obtain⟨l,Y⟩:=q;rw [hp] at w;obtain⟨A,N,M',T',g,F,⟨⟨v,L,T⟩,_,_,O⟩,R3⟩:=w;have U:=Jp L.slice;refine⟨N,M',?_,Fr.toB (X1.trans E2.toB) F (aP _),⟨v,L.s,I7.mono (aP _) (λ_ _ _=>rfl) (λi _ h=>O i h) _ _ T⟩,R3.wide (λi _ d=>?_) λd=>by rcases d with d | d;exact z.np d;omega⟩
   rw [enter (sf:=f98) rfl rfl];simp [f98,D7,c,wY,K,b.1,g,U];rcases d with d | d;exact d;exact .inr (by omega)
@[simp] theorem ahP:Go.AM.H6 nS=true:=_root_.id rfl
theorem fin {S f:Nat->Prop}{p:Nat}{M c:Mem}{t t':List Tok}(h:RD S p M t)(X:bT p M c)(e:M.nx<c.nx)(R:RD f p c t')(g:∀i,i<c.nx->f i->(S i∧i<M.nx)∨M.nx<i)(b:P9):
  bT p M (c.set M.nx b)∧RD (λi=>S i∨M.nx<=i) p (c.set M.nx b) t':=by
 have j:=h.lt;refine⟨⟨Mem.Ok.set X.ok e _,X.nx,X.lim,λi d k=>by rw [w9 X.ok _ e (by omega)];exact X.old i d k⟩,?_⟩;refine R.mono (Mem.Ok.set X.ok e _) (aP _) rfl (w9 X.ok _ e (by omega)) (λi d a=>w9 X.ok _ e ?_) (λi d a=>?_) λa=>?_;rcases g i d a with a | a<;>omega
 rcases g i d a with a | a;exact .inl a.1;exact .inr (by omega);rcases a with a | a;exact h.np a;omega
theorem RD.fence {S:Nat->Prop}{p:Nat}{M:Mem}{t:List Tok}(h:RD S p M t):RD (λi=>S i∧i<M.nx) p M t:=h.wide (λ_ b a=>⟨a,b⟩) λa=>h.np a.1
theorem ach {f:Nat}(hE:∀k,k<=f->CE k)(hC:∀k,k<=f->CA k):CP (f+1):=by
 intro n I p t S M hR hW ht hm hn af;obtain⟨n,rfl⟩:∃k,n=k+6:=⟨n-6,by omega⟩;have hM:=hR.ok;have b5:=hR.lt;have ag:=hR.lF;have E1:=H7 hM [o9 (r4 0 0 [] nS)];have n1:(ext M [o9 (r4 0 0 [] nS)]).nx=M.nx+1:=by simp
 have W:=hR.fence.ext E1;have ap:(ext M [o9 (r4 0 0 [] nS)]).get M.nx=some (o9 (r4 0 0 [] nS)):=by rw [F7 hM];rfl
 have ak:∀(cf:F8),∃v,(ext M [o9 (r4 0 0 [] nS)]).get p=some (o9 [v])∧fT (ext M [o9 (r4 0 0 [] nS)]) 2 v (U6 t):=λ_=>by obtain⟨v,u,h2⟩:=W.has;exact⟨v,u,h2.slice⟩
 obtain⟨v,u,h2⟩:=ak (r9 KW I n);have b:=h2.len;rw [show (U6 t).length=t.length from by simp [U6]] at b;rw [iw];have Z:∀(M3:Mem),bT p (ext M [o9 (r4 0 0 [] nS)]) M3->M3.get M.nx=some (o9 (r4 0 0 [] nS))∧M.nx<M3.nx∧M3.lim<=M.nx∧bT p M M3:=λM3 X=>by have:=X.nx;exact⟨by rw [X.old _ (by omega) (by omega),ap],by omega,by rw [X.lim,E1.lim];exact ag,E1.toB.trans X⟩
 cases hnum:HY t with
 | true=>
  match t,hnum,hW,h2,b,W with
  | (k,x)::ts,hnum,hW,h2,b,W=>
   have hk:k=2:=of_decide_eq_true hnum;subst hk;obtain⟨m,Y,a1,a2,a3,a4,a5⟩:=h2.at (i:=0) (by simp [U6]);have b1:ld1 ((ext M [o9 (r4 0 0 [] nS)]).get m) Y=some (iV 2):=a5 0 (by omega);have b2:ld1 ((ext M [o9 (r4 0 0 [] nS)]).get m) (Y+1)=some (.str x):=a5 1 (by omega);have an:lG v none (λid s o _=>if 0<o then some (o7.ptr id s) else none) (λid s o _=>if 0<o then some (o7.ptr id s) else none)=some (.ptr m Y):=by simpa using a1
   have ah:(0:Int)<((ts.length:Int)+1):=by omega
   obtain⟨ae,aw⟩:=hW (2,x) (by simp) rfl;obtain⟨w,e,M2,ga,E2,hw⟩:=Ul x aw (n+4) I (ext M [o9 (r4 0 0 [] nS)]) E1.ok;have av:w=(nX x:Nat):=by rcases hw with⟨hw,_⟩ | ⟨hw,_⟩;rw [ae] at hw;cases hw;rfl;exact absurd ae (hw _)
   subst av;obtain⟨v2,v',nb,k1,k2,k3,k4,k5,k6,k7,k8,k9⟩:=(W.ext E2).drop;have st:=sB k7;have ax:=λy a ls ao hy ha=>k3 y a ls ao hy ha;obtain⟨K,H,q3,q4⟩:=Z _ (E2.toB.trans k8);have j:=sB q3;have J:∀B,(((dI M2 nb).set p (o9 [v'])).set M.nx B).get M.nx=some B:=λB=>D6 k9.ok _ H rfl;have F:=fin hR q4 H k9 (λi U c=>by have:=E2.nx;rcases c with c | c;exact .inl c;exact .inr (by omega)) (o9 (r4 1 (nX x:Nat) [] nS))
   refine⟨(r4 1 (nX x:Nat) [] nS),_,?_,F.1,⟨nS,[],rfl,.inl ⟨rfl,rfl⟩,rfl⟩,F.2⟩;rw [enter (sf:=f96) rfl rfl];simp [f96,D7,u,b,ah,an,b1,b2,ga,k1,ax,k4,k5,k6,st,j,K,J]
 | false=>
  simp only [Xd,if_false];obtain⟨M2,A,X2,R2⟩:=mo W 40 [] (n+2) I;have ay:=X2.nx;have nl:t=[]∨∃(k:Nat) (x:By) (ts:List Tok),t=(k,x)::ts∧k≠2:=by
   match t,hnum with
   | [],_=>exact .inl rfl
   | (k,x)::ts,h=>exact .inr ⟨k,x,ts,rfl,of_decide_eq_false h⟩
  have ab:∃m Y,(0<t.length->lG v none (λid s o _=>if 0<o then some (o7.ptr id s) else none) (λid s o _=>if 0<o then some (o7.ptr id s) else none)=some (.ptr m Y)∧∃k:Nat,ld1 ((ext M [o9 (r4 0 0 [] nS)]).get m) Y=some (iV (k:Int))∧k≠2):=by rcases nl with rfl | ⟨k,x,ts,rfl,hk⟩;exact⟨0,0,λh=>by simp at h⟩;obtain⟨m,Y,a1,a2,a3,a4,a5⟩:=h2.at (i:=0) (by simp [U6]);exact⟨m,Y,λ_=>⟨by simpa using a1,k,a5 0 (by omega),hk⟩⟩
  obtain⟨m,Y,lk⟩:=ab;have g:(0<t.length∧∃k:Nat,lG v none (λid s o _=>if 0<o then some (o7.ptr id s) else none) (λid s o _=>if 0<o then some (o7.ptr id s) else none)=some (.ptr m Y)∧ld1 ((ext M [o9 (r4 0 0 [] nS)]).get m) Y=some (iV (k:Int))∧¬ (k:Int)=2∧(0:Int)<(t.length:Int))∨(¬ 0<t.length∧¬ (0:Int)<(t.length:Int)):=by by_cases h:0<t.length;obtain⟨C,k,D,G⟩:=lk h;exact .inl ⟨h,k,C,D,by omega,by omega⟩;exact .inr ⟨h,by omega⟩
  unfold jL at R2;cases h40:bC [40] t with
  | true=>
   have hl:=aR h40;rw [h40] at A R2;simp only [if_true] at R2 ⊢;have hx:=hE f (aP _) 0 (n+5) I p (t.drop 1) _ M2 R2 (hW.drop 1) (by simp;omega) (by omega) (by simp;omega) (by omega) af;cases hq:aj f 0 (t.drop 1) with
   | none=>rw [hq] at hx;obtain⟨M3,V,X3⟩:=hx;have d:r9 KW I (n+5) (.func 56) [.ptr p 0,iV 0] M2=_:=V;refine⟨M3,?_,E1.toB.trans (X2.trans X3)⟩;rw [enter (sf:=f96) rfl rfl];rcases g with⟨l0,k0,C,D,G,l4⟩ | ⟨l0,l4⟩;simp [f96,D7,F6,u,b,l0,C,D,G,l4,A,d,panics];simp [f96,D7,F6,u,b,l0,l4,A,d,panics]
   | some q=>
    obtain⟨y,r⟩:=q;rw [hq] at hx;obtain⟨E,M3,V,X3,hr,R3⟩:=hx;have d:r9 KW I (n+5) (.func 56) [.ptr p 0,iV 0] M2=_:=V;have z:=hr.row;have E4:=H7 X3.ok [o9 E];obtain⟨M5,g5,X5,R5⟩:=CX (R3.ext E4) 41 [] (n+1) I;have aq:=X3.nx;have b0:=X5.nx;have n4:(ext M3 [o9 E]).nx=M3.nx+1:=(by simp);unfold jL at R5;obtain⟨L,N,O,P,Q,R⟩:=qo X3.ok (by have:=R3.lF;exact this);have a8:wF (some (o9 (r4 0 0 [] nS))) 0 E=some (o9 E):=by rw [iY (by simp [z.1]) (by simp)];simp [z.1]
    have ai:AO (some (o9 E)) 0 4=some (.agg E):=(by rw [eX (by omega) (by omega),K9,L6 (by omega)]);have XX:=X2.trans (X3.trans (E4.toB.trans X5));simp only;cases h41:bC [41] r with
    | false=>rw [h41] at g5;refine⟨M5,?_,E1.toB.trans XX⟩;rw [enter (sf:=f96) rfl rfl];rcases g with⟨l0,k0,C,D,G,l4⟩ | ⟨l0,l4⟩;simp [f96,D7,F6,u,b,l0,C,D,G,l4,A,d,g5,L,N,O,P,Q,R,z.1,z.2,a8,panics];simp [f96,D7,F6,u,b,l0,l4,A,d,g5,L,N,O,P,Q,R,z.1,z.2,a8,panics]
    | true=>
     rw [h41] at g5 R5;simp only [if_true] at R5 ⊢;obtain⟨K,H,q3,q4⟩:=Z M5 XX;have j:=sB q3;have gx:M5.get M3.nx=some (o9 E):=(by rw [X5.old _ (by omega) (by omega),F7 X3.ok];rfl);have J:∀B,(M5.set M.nx B).get M.nx=some B:=λB=>D6 X5.ok _ H rfl;have F:=fin hR q4 H R5 (λi U c=>by
      rcases c with c | c;rcases c with c | c;rcases c with c | c;exact .inl c;exact .inr (by omega);exact .inr (by omega);exact .inr (by omega)) (o9 E)
     refine⟨E,_,?_,F.1,?_,F.2⟩;rw [enter (sf:=f96) rfl rfl];rcases g with⟨l0,k0,C,D,G,l4⟩ | ⟨l0,l4⟩;simp [f96,D7,F6,u,b,l0,C,D,G,l4,A,d,g5,L,N,O,P,Q,R,z.1,z.2,a8,ai,gx,J,j,K];simp [f96,D7,F6,u,b,l0,l4,A,d,g5,L,N,O,P,Q,R,z.1,z.2,a8,ai,gx,J,j,K];refine aS.mono (by show M3.nx<=M5.nx;omega) (λi U c=>?_) (λi U c=>by omega) _ _ hr;rw [w9 X5.ok _ H (by omega),X5.old i (by omega) (by omega),E4.old i U]
  | false=>
   rw [h40] at A R2;simp only [Xd,if_false] at R2 ⊢;obtain⟨M3,V,X3,R3⟩:=Nh R2 n I (by omega);have aq:=X3.nx;cases hnx:fV t with
   | false=>rw [hnx] at V;simp only [Xd,if_false] at V ⊢;refine⟨M3,?_,E1.toB.trans (X2.trans X3)⟩;rw [enter (sf:=f96) rfl rfl];rcases g with⟨l0,k0,C,D,G,l4⟩ | ⟨l0,l4⟩;simp [f96,D7,F6,u,b,l0,C,D,G,l4,A,V,panics];simp [f96,D7,F6,u,b,l0,l4,A,V,panics]
   | true=>
    have R3:=R3 hnx;have hl:=sJ hnx;rw [hnx] at V;simp only [if_true] at V ⊢;have d:r9 KW I (n+5) (.func 100) [.ptr p 0] M2=some [⟨.str (txt t),M3⟩]:=V;obtain⟨M4,T,X4,R4⟩:=mo R3 40 [] (n+2) I;have az:=X4.nx;unfold jL at R4;have a0:∀i,(((S i∧i<M.nx)∨(ext M [o9 (r4 0 0 [] nS)]).nx<=i)∨M2.nx<=i)∨M3.nx<=i->(S i∧i<M.nx)∨M.nx<i:=λi c=>by rcases c with c | c;rcases c with c | c;rcases c with c | c;exact .inl c;exact .inr (by omega);exact .inr (by omega);exact .inr (by omega)
    cases h42:bC [40] (t.drop 1) with
    | false=>rw [h42] at T R4;simp only [Xd,if_false] at R4 ⊢;have XX:=X2.trans (X3.trans X4);obtain⟨K,H,q3,q4⟩:=Z M4 XX;have j:=sB q3;have J:∀B,(M4.set M.nx B).get M.nx=some B:=λB=>D6 X4.ok _ H rfl;have F:=fin hR q4 H R4 (λi U c=>a0 i c) (o9 (r4 2 0 (txt t) nS));refine⟨(r4 2 0 (txt t) nS),_,?_,F.1,⟨nS,[],rfl,.inl ⟨rfl,rfl⟩,rfl⟩,F.2⟩;rw [enter (sf:=f96) rfl rfl];rcases g with⟨l0,k0,C,D,G,l4⟩ | ⟨l0,l4⟩;simp [f96,D7,F6,u,b,l0,C,D,G,l4,A,d,T,J,j,K];simp [f96,D7,F6,u,b,l0,l4,A,d,T,J,j,K]
    | true=>
     have ar:=aR h42;rw [aht] at ar;rw [h42] at T R4;simp only [if_true,adS,Nat.reduceAdd] at R4 ⊢;have E5:=H7 X4.ok [o9 (r4 3 0 (txt t) nS)];have n5:(ext M4 [o9 (r4 3 0 (txt t) nS)]).nx=M4.nx+1:=(by simp);obtain⟨M6,g6,X6,R6⟩:=mo (R4.fence.ext E5) 41 [] (n+2) I;have b3:=X6.nx;unfold jL at R6;obtain⟨L,N,O,P,Q,R⟩:=qo X4.ok R4.lF;have gx:M6.get M4.nx=some (o9 (r4 3 0 (txt t) nS)):=(by rw [X6.old _ (by omega) (by omega),F7 X4.ok];rfl);cases h43:bC [41] (t.drop 2) with
     | true=>
      rw [h43] at g6 R6;simp only [if_true,adS,Nat.reduceAdd] at R6 ⊢;have XX:=X2.trans (X3.trans (X4.trans (E5.toB.trans X6)));obtain⟨K,H,q3,q4⟩:=Z M6 XX;have j:=sB q3;have J:∀B,(M6.set M.nx B).get M.nx=some B:=λB=>D6 X6.ok _ H rfl;have F:=fin hR q4 H R6 (λi U c=>by
       rcases c with c | c;exact a0 i c.1;exact .inr (by omega)) (o9 (r4 3 0 (txt t) nS))
      refine⟨(r4 3 0 (txt t) nS),_,?_,F.1,⟨nS,[],rfl,.inl ⟨rfl,rfl⟩,rfl⟩,F.2⟩;rw [enter (sf:=f96) rfl rfl];rcases g with⟨l0,k0,C,D,G,l4⟩ | ⟨l0,l4⟩;simp [f96,D7,F6,u,b,l0,C,D,G,l4,A,d,T,g6,L,N,O,P,Q,R,gx,J,j,K];simp [f96,D7,F6,u,b,l0,l4,A,d,T,g6,L,N,O,P,Q,R,gx,J,j,K]
     | false=>
      rw [h43] at g6 R6;simp only [Xd,if_false] at R6 ⊢;have hx:=hC f (aP _) (n+5) I p (t.drop 2) _ M6 R6 (hW.drop 2) (by simp;omega) (by simp;omega) (by omega) af;cases hq:gF f (t.drop 2) with
      | none=>rw [hq] at hx;obtain⟨M7,g7,X7⟩:=hx;refine⟨M7,?_,E1.toB.trans (X2.trans (X3.trans (X4.trans (E5.toB.trans (X6.trans X7)))))⟩;rw [enter (sf:=f96) rfl rfl];rcases g with⟨l0,k0,C,D,G,l4⟩ | ⟨l0,l4⟩;simp [f96,D7,F6,u,b,l0,C,D,G,l4,A,d,T,g6,g7,L,N,O,P,Q,R,panics];simp [f96,D7,F6,u,b,l0,l4,A,d,T,g6,g7,L,N,O,P,Q,R,panics]
      | some q=>
       obtain⟨l,r⟩:=q;rw [hq] at hx;obtain⟨v',M7,g7,X7,⟨am,a7,au⟩,R7⟩:=hx;have b4:=X7.nx;have po:=Jp a7.slice;have cv:=a7.slice.cells;have ov:=a7.slice.H6;have q7:M4.nx<M7.nx:=(by omega);have l7:M7.lim<=M4.nx:=(by rw [X7.lim,X6.lim,E5.lim];exact R4.lF);have a6:M7.get M4.nx=some (o9 (r4 3 0 (txt t) nS)):=(X7.old _ (by omega) (by omega)).trans gx;have a9:=sB l7;have al:(M7.set M4.nx (o9 (r4 3 0 (txt t) v'))).Ok:=Mem.Ok.set X7.ok q7 _;have R8:RD (λi=>((((((S i∧i<M.nx)∨(ext M [o9 (r4 0 0 [] nS)]).nx<=i)∨M2.nx<=i)∨M3.nx<=i)∧i<M4.nx)∨(ext M4 [o9 (r4 3 0 (txt t) nS)]).nx<=i)∨M6.nx<=i) p (M7.set M4.nx (o9 (r4 3 0 (txt t) v'))) r:=
        R7.mono al (aP _) rfl (w9 X7.ok _ q7 (by omega)) (λi U c=>w9 X7.ok _ q7 (by rcases c with (c | c) | c<;>omega)) (λ_ _ h=>h) R7.np
       obtain⟨M9,g9,X9,R9⟩:=CX R8 41 [] (n+1) I;have ad:M7.nx<=M9.nx:=X9.nx;unfold jL at R9;have X17:bT p (ext M [o9 (r4 0 0 [] nS)]) (M7.set M4.nx (o9 (r4 3 0 (txt t) v'))):=by have XX:=X2.trans (X3.trans (X4.trans (E5.toB.trans (X6.trans X7))));exact⟨al,XX.nx,XX.lim,λi U hn=>by rw [w9 X7.ok _ q7 (by omega),XX.old i U hn]⟩
       have XX:=X17.trans X9;simp only;cases h44:bC [41] r with
       | false=>rw [h44] at g9;refine⟨M9,?_,E1.toB.trans XX⟩;rw [enter (sf:=f96) rfl rfl];rcases g with⟨l0,k0,C,D,G,l4⟩ | ⟨l0,l4⟩;simp [f96,D7,F6,u,b,l0,C,D,G,l4,A,d,T,g6,g7,g9,L,N,O,P,Q,R,a6,a9,po,cv,ov,panics];simp [f96,D7,F6,u,b,l0,l4,A,d,T,g6,g7,g9,L,N,O,P,Q,R,a6,a9,po,cv,ov,panics]
       | true=>
        rw [h44] at g9 R9;simp only [if_true] at R9 ⊢;obtain⟨K,H,q3,q4⟩:=Z M9 XX;have j:=sB q3;have J:∀B,(M9.set M.nx B).get M.nx=some B:=λB=>D6 X9.ok _ H rfl;have ac:M9.get M4.nx=some (o9 (r4 3 0 (txt t) v')):=(by rw [X9.old _ q7 (by omega)];exact D6 X7.ok _ q7 rfl);have F:=fin hR q4 H R9 (λi U c=>by
         rcases c with ((c | c) | c) | c;exact a0 i c.1;exact .inr (by omega);exact .inr (by omega);have:M7.nx<=i:=c;exact .inr (by omega)) (o9 (r4 3 0 (txt t) v'))
        have aa:∀i,i<M7.nx->M6.nx<=i->(M9.set M.nx (o9 (r4 3 0 (txt t) v'))).get i=M7.get i:=λi U c=>(by rw [w9 X9.ok _ H (by omega),X9.old i U (by omega),w9 X7.ok _ q7 (by omega)]);refine⟨(r4 3 0 (txt t) v'),_,?_,F.1,⟨v',am,rfl,a7.mono ad aa (λi _ c=>by omega),I7.mono (m':=M9.set M.nx _) ad aa (λi _ c=>by omega) _ _ au⟩,F.2⟩;rw [enter (sf:=f96) rfl rfl];rcases g with⟨l0,k0,C,D,G,l4⟩ | ⟨l0,l4⟩;simp [f96,D7,F6,u,b,l0,C,D,G,l4,A,d,T,g6,g7,g9,L,N,O,P,Q,R,a6,ac,a9,po,cv,ov,J,j,K];simp [f96,D7,F6,u,b,l0,l4,A,d,T,g6,g7,g9,L,N,O,P,Q,R,a6,ac,a9,po,cv,ov,J,j,K]
theorem ag0 {a b:List o7}(c:a.length=4)(hb:b.length=4){x y:OF}{ls:List o7}{env:T o7}{nid:Nat}(d:x ls env=.agg a)(f:y ls env=.agg b):
  P7 4 2 (r4 0 0 [] nS) [(0,4,x),(4,4,y)] ls env nid=some (.slice nid 0 2 2,some (.cells 4 2 (T.ofList [a,b]))):=by
 match a,c,b,hb with
 | [a0,a1,a2,a3],_,[b0,b1,b2,b3],_=>
  have e:lay [(0,4,x),(4,4,y)] ls env (U7 (r4 0 0 [] nS) 2)=some [a0,a1,a2,a3,b0,b1,b2,b3]:=by show lay [(0,4,x),(4,4,y)] ls env [iV 0,iV 0,.str [],nS,iV 0,iV 0,.str [],nS]=_;rw [Mq];simp only [d,Cz];simp [f]
  show ob (lay [(0,4,x),(4,4,y)] ls env (U7 (r4 0 0 [] nS) 2)) (λcells=>xw 4 2 cells λb=>some (o7.slice nid 0 2 2,some b))=_;rw [e];rfl
theorem Wx {lv k:Int}{s:By}{kd:Int}(h:nH lv k s=some kd):kd≠0:=by
 have d:∀l:List (Int×Int×List UInt8×Int),(List.rec none (λe _ a=>bi (bJ e.1 lv) (bi (bJ e.2.1 k) (bi (strEq e.2.2.1 s) (some e.2.2.2) a) a) a) l:Option Int)=some kd->∃e∈l,e.2.2.2=kd:=by
  intro l;induction l with
  | nil=>intro h;cases h
  | cons e l a=>
   intro h;have h:bi (bJ e.1 lv) (bi (bJ e.2.1 k) (bi (strEq e.2.2.1 s) (some e.2.2.2) _) _) _=some kd:=h;cases h1:bJ e.1 lv with
   | false=>rw [h1,U5] at h;obtain⟨x,b,c⟩:=a h;exact⟨x,by simp [b],c⟩
   | true=>
    rw [h1,Q9] at h;cases h2:bJ e.2.1 k with
    | false=>rw [h2,U5] at h;obtain⟨x,b,c⟩:=a h;exact⟨x,by simp [b],c⟩
    | true=>
     rw [h2,Q9] at h;cases h3:strEq e.2.2.1 s with
     | false=>rw [h3,U5] at h;obtain⟨x,b,c⟩:=a h;exact⟨x,by simp [b],c⟩
     | true=>rw [h3,Q9] at h;cases h;exact⟨e,by simp,rfl⟩
 obtain⟨e,f,rfl⟩:=d aN h;exact (by decide:∀e∈aN,e.2.2.2≠0) e f
theorem ag1 {lv:Int}{t:List Tok}{a:Int}(h:Zp lv t=some a):a≠0:=by
 cases t with
 | nil=>cases h
 | cons t ts=>exact Wx h
theorem SK {M:Mem}{lo:Nat}{x:Ex}{row:List o7}(c:M.Ok)(h:aS M (λi=>lo<=i) x row)(a:lo<=M.nx)(k:Int):aS (ext M [o9 row]) (λi=>lo<=i) (.mk k 0 [] [x]) (r4 k 0 [] (.slice M.nx 0 1 1)):=by
 have E:=H7 c [o9 row];have d:=h.row;refine⟨.slice M.nx 0 1 1,[row],rfl,.inr ⟨M.nx,0,a,.inl ⟨1,by simp,by simp⟩,by simp,.inr ⟨1,.nd .e row .e,?_,by simp,λr b=>by rw [aA.1 b];exact d.1,λi f=>?_⟩⟩,row,[],rfl,NR E h,rfl⟩;rw [F7 c];show some (o9 row)=some (P9.cells 4 1 (.nd .e row .e));show some (P9.cells (len' row) 1 (.nd .e row .e))=_;rw [I9,d.1];obtain rfl:i=0:=by simpa using f
 rfl
theorem ag2 {M:Mem}{S:Nat->Prop}{x y:Ex}{a b:List o7}(g:M.Ok)(e:aS M S x a)(f:aS M S y b)(d:S M.nx)(k:Int):aS (ext M [.cells 4 2 (T.ofList [a,b])]) S (.mk k 0 [] [x,y]) (r4 k 0 [] (.slice M.nx 0 2 2)):=by have E:=H7 g [.cells 4 2 (T.ofList [a,b])];refine⟨.slice M.nx 0 2 2,[a,b],rfl,.inr ⟨M.nx,0,d,.inl ⟨2,by simp,by simp⟩,by simp,.inr ⟨2,T.ofList [a,b],by rw [F7 g];rfl,by simp,λr c=>?_,λi h=>?_⟩⟩,a,[b],rfl,NR E e,b,[],rfl,NR E f,rfl⟩;simp only [Y4,ae1,or_false] at c;rcases c with rfl | rfl;exact e.row.1;exact f.row.1;rw [T.au,Z9,y7 h]
@[simp] theorem ag3 (a b c d:Nat):Go.AM.H6 (.slice a b c d)=true:=_root_.id rfl
def Sx (S:Nat->Prop)(q q10:Nat):Nat->Prop:=λi=>(S i∧i<q)∨(q<i∧i≠q10)
theorem aci {f n fu p lv q q10:Nat}{M0:Mem}{S:Nat->Prop}(hE:∀k,k<=f->CE k)(hlv:lv<=5)(hn:f+20<=n)(hfu:20000<=fu)(hp0:p<q)(hq:q=M0.nx)(hq10:q<q10)(hSp:¬ S p)(c1 c2 c4 c6 c7:o7):
  ∀(k:Nat),k<=f+1->∀(t:List Tok) (x:Ex) (row:List o7) (M:Mem) (N:Nat) (c8 c9 c11 c12:o7),RD (Sx S q q10) p M t->Ur t->t.length<=10000->10*t.length+1<=k->bT p M0 M->q10<M.nx->M.lim<=q->M.get q=some (o9 (r4 0 0 [] nS))->M.get q10=some (o9 row)->aS M (λi=>q<i∧i≠q10) x row->t.length+1<=N->
  match bK k lv x t with
  | none=>∃c8' c9' c11' c12' M',K8 (λenv m k=>Bj (r9 KW fu n) fu none env m k) N (SA (iV (lv:Int)) c1 c2 (.ptr p 0) c4 (.ptr q 0) c6 c7 c8 c9 (.ptr q10 0) c11 c12) M []=some [⟨.ret,(SA (iV (lv:Int)) c1 c2 (.ptr p 0) c4 (.ptr q 0) c6 c7 c8' c9' (.ptr q10 0) c11' c12'),M',[],some (.iface 58 (.agg []))⟩]∧bT p M0 M'
  | some (e,r)=>∃c8' c9' c11' c12' M' row',K8 (λenv m k=>Bj (r9 KW fu n) fu none env m k) N (SA (iV (lv:Int)) c1 c2 (.ptr p 0) c4 (.ptr q 0) c6 c7 c8 c9 (.ptr q10 0) c11 c12) M []=some [⟨.ret,(SA (iV (lv:Int)) c1 c2 (.ptr p 0) c4 (.ptr q 0) c6 c7 c8' c9' (.ptr q10 0) c11' c12'),M',[],none⟩]∧bT p M0 M'∧M'.get q=some (o9 row')∧q<M'.nx∧aS M' (λi=>q<i∧i≠q10) e row'∧RD (Sx S q q10) p M' r:=by
 intro k;induction k with
 | zero=>intro hk t x row M N c8 c9 c11 c12 hR hW ht hm;omega
 | succ k ih=>
  intro hk t x row M N c8 c9 c11 c12 hR hW ht hm X hlt hl gq g10 hx hN;obtain⟨N,rfl⟩:∃k,N=k+1:=⟨N-1,by omega⟩;obtain⟨n,rfl⟩:∃k,n=k+1:=⟨n-1,by omega⟩;obtain⟨M1,g1,X1,R1⟩:=afZ hR (lv:Int) n fu;have hX1:=X1.nx;have hr4:=hx.row;have np:¬ Sx S q q10 p:=λh=>by rcases h with h | h;exact hSp h.1;omega
  have gq1:M1.get q=some (o9 (r4 0 0 [] nS)):=by rw [X1.old _ (by omega) (by omega),gq]
  have g101:M1.get q10=some (o9 row):=by rw [X1.old _ (by omega) (by omega),g10]
  have ld4:AO (some (o9 row)) 0 4=some (.agg row):=by rw [eX (by omega) (by omega),K9,L6 (by omega)]
  have st4:∀r:List o7,r.length=4->∀r':List o7,r'.length=4->wF (some (o9 r')) 0 r=some (o9 r):=λr hr r' hr'=>by rw [iY (by omega) (by omega)];simp [hr,abC (show r'.length<=4 by omega)]
  rw [bK];have X01:=X.trans X1;cases ho:Zp (lv:Int) t with
  | none=>
   rw [ho] at g1 R1;simp only [Option.isSome_none,Xd,if_false,Option.getD_none] at g1 R1 ⊢;have hl1:M1.lim<=q:=by rw [X1.lim];exact hl
   have stz:=sB hl1;have hq1:q<M1.nx:=by omega
   have ok2:(M1.set q (o9 row)).Ok:=Mem.Ok.set X1.ok hq1 _;have s4:=st4 row hr4.1 (r4 0 0 [] nS) rfl;refine⟨iV 0,.bool true,c11,c12,M1.set q (o9 row),row,?_,⟨ok2,X01.nx,X01.lim,λi hi hn=>by rw [w9 X1.ok _ hq1 (by omega),X01.old i hi hn]⟩,D6 X1.ok _ hq1 rfl,hq1,?_,?_⟩;rw [A8];simp [Bj,g1,g101,gq1,ld4,stz,hr4.1,hr4.2,s4];refine aS.mono (by show M.nx<=M1.nx;omega) (λi hi hs=>?_) (λ_ _ h=>h) _ _ hx;rw [w9 X1.ok _ hq1 (by omega),X1.old i hi (by omega)];refine R1.mono ok2 (aP _) rfl (w9 X1.ok _ hq1 (by omega)) (λi hi hs=>w9 X1.ok _ hq1 ?_) (λi hi hs=>?_) np;rcases hs with (hs | hs) | hs<;>omega
   rcases hs with hs | hs;exact hs;exact .inr (by omega)
  | some kd=>
   have hne:=ag1 ho;have hln:=Ng ho;rw [ho] at g1 R1;simp only [Option.isSome_some,if_true,Option.getD_some] at g1 R1 ⊢;have hc:=hE k (by omega) (lv+1) (n+1) fu p (t.drop 1) _ M1 R1 (hW.drop 1) (by simp;omega) (by omega) (by simp;omega) (by omega) hfu;have wl:rz ((lv:Int)+1)=(lv:Int)+1:=Z0 (by omega) (by omega);cases hq2:aj k (lv+1) (t.drop 1) with
   | none=>rw [hq2] at hc;obtain⟨M2,g2,X2⟩:=hc;have g2':r9 KW fu (n+1) (.func 56) [.ptr p 0,.int .i64 ((lv:Int)+1)] M1=_:=g2;refine⟨iV kd,.bool false,c11,c12,M2,?_,X01.trans X2⟩;rw [A8];simp [Bj,g1,hne,wl,g2',panics]
   | some z=>
    obtain⟨y,r⟩:=z;rw [hq2] at hc;obtain⟨rowy,M2,g2,X2,hy,R2⟩:=hc;have g2':r9 KW fu (n+1) (.func 56) [.ptr p 0,.int .i64 ((lv:Int)+1)] M1=_:=g2;have hy4:=hy.row;have hX2:=X2.nx;simp only;have E3:=H7 X2.ok [o9 rowy];have n3:(ext M2 [o9 rowy]).nx=M2.nx+1:=(by simp);have E4:=H7 E3.ok [.cells 4 2 (T.ofList [row,rowy])];have X04:=X01.trans (X2.trans (E3.toB.trans E4.toB));have tx:aS (ext M2 [o9 rowy]) (λi=>q<i∧i≠q10) x row:=aS.mono (by omega) (λi hi hs=>by rw [E3.old i (by omega),X2.old i (by omega) (by omega),X1.old i hi (by omega)]) (λ_ _ h=>h) _ _ hx;have ty:aS (ext M2 [o9 rowy]) (λi=>q<i∧i≠q10) y rowy:=aS.mono E3.nx (λi hi _=>E3.old i hi) (λi hi hs=>by omega) _ _ hy;have tn:=ag2 E3.ok tx ty (by show q < _∧_≠q10;omega) kd;rw [F6,n3] at tn;rw [F6] at E4 X04;generalize hM4:ext M2 ([o9 rowy] ++ [.cells 4 2 (T.ofList [row,rowy])])=M4 at *;have n4:M4.nx=M2.nx+2:=(by rw [← hM4];simp);have old4:∀i,i<M2.nx->M4.get i=M2.get i:=λi hi=>(by rw [← hM4,bg X2.ok _ hi]);have g104:M4.get q10=some (o9 row):=(by rw [old4 _ (by omega),X2.old _ (by omega) (by omega),g101]);have g103:(ext M2 [o9 rowy]).get q10=some (o9 row):=(by rw [bg X2.ok _ (by omega),X2.old _ (by omega) (by omega),g101]);have gq4:M4.get q=some (o9 (r4 0 0 [] nS)):=(by rw [old4 _ (by omega),X2.old _ (by omega) (by omega),gq1]);have q4:q10<M4.nx:=(by omega);have l4:M4.lim<=q:=(by rw [E4.lim,E3.lim,X2.lim,X1.lim];exact hl);have l4':M4.lim<=q10:=(by omega);let nr:List o7:=(r4 kd 0 [] (.slice (M2.nx+1) 0 2 2))
    have ok5:(M4.set q10 (o9 nr)).Ok:=Mem.Ok.set E4.ok q4 _;have t5:aS (M4.set q10 (o9 nr)) (λi=>q<i∧i≠q10) (.mk kd 0 [] [x,y]) nr:=aS.mono (m:=M4) (m':=M4.set q10 (o9 nr)) (aP _) (λi hi hs=>w9 E4.ok _ q4 hs.2) (λ_ _ h=>h) _ _ tn;have R5:RD (Sx S q q10) p (M4.set q10 (o9 nr)) r:=by
     refine R2.mono ok5 (by show M2.nx<=M4.nx;omega) (by show M4.lim=_;rw [E4.lim,E3.lim]) ?_ (λi hi hs=>?_) (λi hi hs=>?_) np;rw [w9 E4.ok _ q4 (by omega),old4 _ R2.lt];rw [w9 E4.ok _ q4 ?_,old4 _ hi];rcases hs with ((hs | hs) | hs) | hs<;>omega
     rcases hs with (hs | hs) | hs;exact hs;exact .inr (by omega);exact .inr (by omega)
    have X05:bT p M0 (M4.set q10 (o9 nr)):=⟨ok5,X04.nx,X04.lim,λi hi hn=>by rw [w9 E4.ok _ q4 (by omega),X04.old i hi hn]⟩;have gq5:(M4.set q10 (o9 nr)).get q=some (o9 (r4 0 0 [] nS)):=(by rw [w9 E4.ok _ q4 (by omega),gq4]);have g105:(M4.set q10 (o9 nr)).get q10=some (o9 nr):=D6 E4.ok _ q4 rfl;have hrl:=(uq k).1 _ _ _ _ hq2;simp at hrl;have b2:=λx y ls env nid hx hy=>ag0 hr4.1 hy4.1 (x:=x) (y:=y) (ls:=ls) (env:=env) (nid:=nid) hx hy;have ldy:AO (some (o9 rowy)) 0 4=some (.agg rowy):=by rw [eX (by omega) (by omega),K9,L6 (by omega)]
    have sy:=st4 rowy hy4.1 (r4 0 0 [] nS) rfl;have sn:=st4 nr rfl row hr4.1;have hM4':ext M2 [o9 rowy,.cells 4 2 (T.ofList [row,rowy])]=M4:=hM4;obtain⟨y1,y2,y3,y4,y5,y6⟩:=qo X2.ok R2.lF;have st5:=sB l4';by_cases h3:lv=3;subst h3;simp only [if_true];have q5:q<(M4.set q10 (o9 nr)).nx:=(by show q<M4.nx;omega);have l5:(M4.set q10 (o9 nr)).lim<=q:=l4;have stz:=sB l5;have ok6:((M4.set q10 (o9 nr)).set q (o9 nr)).Ok:=Mem.Ok.set ok5 q5 _;have sz:=st4 nr rfl (r4 0 0 [] nS) rfl;refine⟨iV kd,.bool false,.ptr M2.nx 0,.bool true,(M4.set q10 (o9 nr)).set q (o9 nr),nr,?_,⟨ok6,X05.nx,X05.lim,λi hi hn=>by rw [w9 ok5 _ q5 (by omega),X05.old i hi hn]⟩,D6 ok5 _ q5 rfl,q5,?_,?_⟩;have g2'':r9 KW fu (n+1) (.func 56) [.ptr p 0,iV 4] M1=_:=g2;have g1':r9 KW fu (n+1) (.func 97) [.ptr p 0,iV 3] M=some [⟨iV kd,M1⟩]:=g1;have wl':rz (3+1)=4:=Z0 (by decide) (by decide);have wl2:rz 4=4:=Z0 (by decide) (by decide);have ldn:AO (some (o9 nr)) 0 4=some (.agg nr):=(by rw [eX (by simp [nr]) (by simp [nr])];rfl);rw [A8];simp [Bj,D7,F6,g1',hne,wl',wl2,g2'',y1,y2,y3,y4,y5,y6,hr4.1,hr4.2,hy4.1,hy4.2,ld4,ldy,sy,b2,g103,hM4',g104,st5,sn,g105,gq5,stz,sz,nr];exact aS.mono (m:=M4.set q10 (o9 nr)) (m':=(M4.set q10 (o9 nr)).set q (o9 nr)) (aP _) (λi hi hs=>w9 ok5 _ q5 (by omega)) (λ_ _ h=>h) _ _ t5;exact R5.mono ok6 (aP _) rfl (w9 ok5 _ q5 (by omega)) (λi hi hs=>w9 ok5 _ q5 (by rcases hs with hs | hs<;>omega)) (λ_ _ h=>h) np
    simp only [if_neg h3];have h3':¬ (lv:Int)=3:=(by omega);have hrec:=ih (by omega) r (.mk kd 0 [] [x,y]) nr (M4.set q10 (o9 nr)) N (iV kd) ff (.ptr M2.nx 0) ff R5 (λz hz=>hW z (aaA (pV k (lv+1) _ _ _ hq2 z hz))) (by omega) (by omega) X05 (by show q10<M4.nx;omega) l4 gq5 g105 t5 (by omega);have step:∀N,K8 (λenv m k=>Bj (r9 KW fu (n+1)) fu none env m k) (N+1) (SA (iV (lv:Int)) c1 c2 (.ptr p 0) c4 (.ptr q 0) c6 c7 c8 c9 (.ptr q10 0) c11 c12) M []=K8 (λenv m k=>Bj (r9 KW fu (n+1)) fu none env m k) N (SA (iV (lv:Int)) c1 c2 (.ptr p 0) c4 (.ptr q 0) c6 c7 (iV kd) ff (.ptr q10 0) (.ptr M2.nx 0) ff) (M4.set q10 (o9 nr)) []:=λN=>by rw [A8];simp [Bj,D7,F6,g1,hne,wl,h3',h3,g2',y1,y2,y3,y4,y5,y6,hr4.1,hr4.2,hy4.1,hy4.2,ld4,ldy,sy,b2,g103,hM4',g104,st5,sn,nr]
    rw [step];exact hrec
theorem acj {f:Nat}(T:∀k,k<=f->CE k)(hP:∀k,k<=f->CP k):CE (f+1):=by
 intro lv n fu p t S M C R ht a2 hm hn A;obtain⟨n,rfl⟩:∃k,n=k+4:=⟨n-4,by omega⟩;have hM:=C.ok;have a0:=C.lt;have U:=C.lF;have E1:=H7 hM [o9 (r4 0 0 [] nS)];have n1:(ext M [o9 (r4 0 0 [] nS)]).nx=M.nx+1:=by simp
 have P:=C.fence.ext E1;have Z:(ext M [o9 (r4 0 0 [] nS)]).get M.nx=some (o9 (r4 0 0 [] nS)):=by rw [F7 hM];rfl
 have G:∀(M3:Mem),bT p (ext M [o9 (r4 0 0 [] nS)]) M3->M3.get M.nx=some (o9 (r4 0 0 [] nS))∧M.nx<M3.nx∧M3.lim<=M.nx∧bT p M M3:=λM3 X=>by have:=X.nx;exact⟨by rw [X.old _ (by omega) (by omega),Z],by omega,by rw [X.lim,E1.lim];exact U,E1.toB.trans X⟩
 have v:∀M2:Mem,(ext M [o9 (r4 0 0 [] nS)]).nx<=M2.nx->∀i,((S i∧i<M.nx)∨(ext M [o9 (r4 0 0 [] nS)]).nx<=i)∨M2.nx<=i->(S i∧i<M.nx)∨M.nx<i:=λM2 h i b=>by rcases b with (b | b) | b;exact .inl b;exact .inr (by omega);exact .inr (by omega)
 have L:∀r:List o7,r.length=4->wF (some (o9 (r4 0 0 [] nS))) 0 r=some (o9 r):=λr j=>by rw [iY (by simp [j]) (by simp)];simp [j]
 have Q:∀r:List o7,r.length=4->AO (some (o9 r)) 0 4=some (.agg r):=λr j=>by rw [eX (by omega) (by omega),K9,L6 (by omega)]
 rw [aj];by_cases h2:lv=2;subst h2;rw [if_pos rfl];obtain⟨M2,l,X2,R2⟩:=mo P 110 [111,116] n fu;have w:=X2.nx;unfold jL at R2;cases ha:bC [110,111,116] t with
 | true=>
  have hl:=aR ha;rw [ha] at l R2;simp only [if_true] at R2 ⊢;have d:=T f (aP _) 2 (n+3) fu p (t.drop 1) _ M2 R2 (R.drop 1) (by simp;omega) (by omega) (by simp;omega) (by omega) A;cases hq:aj f 2 (t.drop 1) with
  | none=>rw [hq] at d;obtain⟨M3,s,X3⟩:=d;have c:r9 KW fu (n+3) (.func 56) [.ptr p 0,iV 2] M2=_:=s;refine⟨M3,?_,E1.toB.trans (X2.trans X3)⟩;rw [enter (sf:=f56) rfl rfl];simp [f56,D7,l,c,panics]
  | some q=>
   obtain⟨y,r⟩:=q;rw [hq] at d;obtain⟨row,M3,s,X3,j,R3⟩:=d;have c:r9 KW fu (n+3) (.func 56) [.ptr p 0,iV 2] M2=_:=s;have a:=j.row;have D:=X3.nx;have E4:=H7 X3.ok [o9 row];have n4:(ext M3 [o9 row]).nx=M3.nx+1:=by simp
   have tn:=SK X3.ok j D 5;have XX:=X2.trans (X3.trans E4.toB);obtain⟨I,o,J,K⟩:=G _ XX;have u:=sB J;have O:∀B,((ext M3 [o9 row]).set M.nx B).get M.nx=some B:=λB=>D6 E4.ok _ o rfl;have F:=fin C K o (R3.ext E4) (λi E b=>v M2 w i b) (o9 (r4 5 0 [] (.slice M3.nx 0 1 1)));have l4:=λx ls env d=>Ni a.1 (x:=x) (ls:=ls) (env:=env) d;refine⟨(r4 5 0 [] (.slice M3.nx 0 1 1)),_,?_,F.1,?_,F.2⟩;rw [enter (sf:=f56) rfl rfl];simp [f56,D7,F6,l,c,wY,l4,a.1,u,I,O];exact aS.mono (m:=ext M3 [o9 row]) (m':=(ext M3 [o9 row]).set M.nx _) (aP _) (λi E b=>w9 E4.ok _ o (by omega)) (λi _ b=>by omega) _ _ tn
 | false=>
  rw [ha] at l R2;simp only [Xd,if_false] at R2 ⊢;have d:=T f (aP _) 3 (n+3) fu p t _ M2 R2 R ht (by omega) (by omega) (by omega) A;cases hq:aj f 3 t with
  | none=>rw [hq] at d;obtain⟨M3,s,X3⟩:=d;have c:r9 KW fu (n+3) (.func 56) [.ptr p 0,iV 3] M2=_:=s;refine⟨M3,?_,E1.toB.trans (X2.trans X3)⟩;rw [enter (sf:=f56) rfl rfl];simp [f56,D7,l,c,panics]
  | some q=>obtain⟨y,r⟩:=q;rw [hq] at d;obtain⟨row,M3,s,X3,j,R3⟩:=d;have c:r9 KW fu (n+3) (.func 56) [.ptr p 0,iV 3] M2=_:=s;have a:=j.row;have D:=X3.nx;have XX:=X2.trans X3;obtain⟨I,o,J,K⟩:=G _ XX;have u:=sB J;have O:∀B,(M3.set M.nx B).get M.nx=some B:=λB=>D6 X3.ok _ o rfl;have F:=fin C K o R3 (λi E b=>v M2 w i b) (o9 row);refine⟨row,_,?_,F.1,?_,F.2⟩;rw [enter (sf:=f56) rfl rfl];simp [f56,D7,F6,l,c,a.1,a.2,u,I,O,L row a.1,Q row a.1];exact aS.mono (m:=M3) (m':=M3.set M.nx _) (aP _) (λi E b=>w9 X3.ok _ o (by omega)) (λi _ b=>by omega) _ _ j
 rw [if_neg h2];by_cases h6:lv=6;subst h6;rw [if_pos rfl];obtain⟨M2,l,X2,R2⟩:=mo P 45 [] n fu;have w:=X2.nx;unfold jL at R2;cases ha:bC [45] t with
 | true=>
  have hl:=aR ha;rw [ha] at l R2;simp only [if_true] at R2 ⊢;have d:=T f (aP _) 6 (n+3) fu p (t.drop 1) _ M2 R2 (R.drop 1) (by simp;omega) (by omega) (by simp;omega) (by omega) A;cases hq:aj f 6 (t.drop 1) with
  | none=>rw [hq] at d;obtain⟨M3,s,X3⟩:=d;have c:r9 KW fu (n+3) (.func 56) [.ptr p 0,iV 6] M2=_:=s;refine⟨M3,?_,E1.toB.trans (X2.trans X3)⟩;rw [enter (sf:=f56) rfl rfl];simp [f56,D7,l,c,panics]
  | some q=>
   obtain⟨y,r⟩:=q;rw [hq] at d;obtain⟨row,M3,s,X3,j,R3⟩:=d;have c:r9 KW fu (n+3) (.func 56) [.ptr p 0,iV 6] M2=_:=s;have a:=j.row;have D:=X3.nx;have E4:=H7 X3.ok [o9 row];have n4:(ext M3 [o9 row]).nx=M3.nx+1:=by simp
   have tn:=SK X3.ok j D 4;have XX:=X2.trans (X3.trans E4.toB);obtain⟨I,o,J,K⟩:=G _ XX;have u:=sB J;have O:∀B,((ext M3 [o9 row]).set M.nx B).get M.nx=some B:=λB=>D6 E4.ok _ o rfl;have F:=fin C K o (R3.ext E4) (λi E b=>v M2 w i b) (o9 (r4 4 0 [] (.slice M3.nx 0 1 1)));have l4:=λx ls env d=>Ni a.1 (x:=x) (ls:=ls) (env:=env) d;refine⟨(r4 4 0 [] (.slice M3.nx 0 1 1)),_,?_,F.1,?_,F.2⟩;rw [enter (sf:=f56) rfl rfl];simp [f56,D7,F6,l,c,wY,l4,a.1,u,I,O];exact aS.mono (m:=ext M3 [o9 row]) (m':=(ext M3 [o9 row]).set M.nx _) (aP _) (λi E b=>w9 E4.ok _ o (by omega)) (λi _ b=>by omega) _ _ tn
 | false=>
  rw [ha] at l R2;simp only [Xd,if_false] at R2 ⊢;have d:=hP f (aP _) (n+3) fu p t _ M2 R2 R ht (by omega) (by omega) A;cases hq:iw f t with
  | none=>rw [hq] at d;obtain⟨M3,s,X3⟩:=d;have c:r9 KW fu (n+3) (.func 96) [.ptr p 0] M2=_:=s;refine⟨M3,?_,E1.toB.trans (X2.trans X3)⟩;rw [enter (sf:=f56) rfl rfl];simp [f56,D7,l,c,panics]
  | some q=>obtain⟨y,r⟩:=q;rw [hq] at d;obtain⟨row,M3,s,X3,j,R3⟩:=d;have c:r9 KW fu (n+3) (.func 96) [.ptr p 0] M2=_:=s;have a:=j.row;have D:=X3.nx;have XX:=X2.trans X3;obtain⟨I,o,J,K⟩:=G _ XX;have u:=sB J;have O:∀B,(M3.set M.nx B).get M.nx=some B:=λB=>D6 X3.ok _ o rfl;have F:=fin C K o R3 (λi E b=>v M2 w i b) (o9 row);refine⟨row,_,?_,F.1,?_,F.2⟩;rw [enter (sf:=f56) rfl rfl];simp [f56,D7,F6,l,c,a.1,a.2,u,I,O,L row a.1,Q row a.1];exact aS.mono (m:=M3) (m':=M3.set M.nx _) (aP _) (λi E b=>w9 X3.ok _ o (by omega)) (λi _ b=>by omega) _ _ j
 rw [if_neg h6];have i2:¬ (lv:Int)=2:=by omega
 have i6:¬ (lv:Int)=6:=by omega
 have wl:rz ((lv:Int)+1)=(lv:Int)+1:=Z0 (by omega) (by omega);have d:=T f (aP _) (lv+1) (n+3) fu p t _ _ P R ht (by omega) (by omega) (by omega) A;cases hq:aj f (lv+1) t with
 | none=>rw [hq] at d;obtain⟨M2,l,X2⟩:=d;have H:r9 KW fu (n+3) (.func 56) [.ptr p 0,.int .i64 ((lv:Int)+1)] (ext M [o9 (r4 0 0 [] nS)])=_:=l;refine⟨M2,?_,E1.toB.trans X2⟩;rw [enter (sf:=f56) rfl rfl];simp [f56,D7,i2,i6,wl,h2,h6,H,panics]
 | some q=>
  obtain⟨x,r⟩:=q;rw [hq] at d;obtain⟨row,M2,l,X2,j,R2⟩:=d;have H:r9 KW fu (n+3) (.func 56) [.ptr p 0,.int .i64 ((lv:Int)+1)] (ext M [o9 (r4 0 0 [] nS)])=_:=l;have a:=j.row;have w:=X2.nx;have E3:=H7 X2.ok [o9 row];have n3:(ext M2 [o9 row]).nx=M2.nx+1:=by simp
  obtain⟨I,o,J,K⟩:=G _ (X2.trans E3.toB);have R3:RD (Sx S M.nx M2.nx) p (ext M2 [o9 row]) r:=(R2.wide (S':=Sx S M.nx M2.nx) (λi E b=>by
   rcases b with b | b;exact .inl b;exact .inr ⟨by omega,by omega⟩) (λb=>by rcases b with b | b;exact C.np b.1;omega)).ext E3
  have t3:aS (ext M2 [o9 row]) (λi=>M.nx<i∧i≠M2.nx) x row:=aS.mono E3.nx (λi E _=>E3.old i E) (λi E b=>⟨by omega,by omega⟩) _ _ j;have a4:=(uq f).1 _ _ _ _ hq;have V:=aci (f:=f) (n:=n+3) (fu:=fu) (p:=p) (lv:=lv) (q:=M.nx) (q10:=M2.nx) (M0:=M) (S:=S) T (by omega) (by omega) A a0 rfl (by omega) C.np (iV (lv:Int)) ff .undef ff .undef f (by omega) r x row (ext M2 [o9 row]) fu .undef .undef .undef .undef R3 (λz hz=>R z (pV f (lv+1) _ _ _ hq z hz)) (by omega) (by omega) K (by omega) J I (by rw [F7 X2.ok];rfl) t3 (by omega);obtain⟨y1,y2,y3,y4,y5,y6⟩:=qo X2.ok R2.lF;simp only;cases hp:bK f lv x r with
  | none=>rw [hp] at V;obtain⟨c8,c9,W,Y,M',g,X⟩:=V;refine⟨M',?_,X⟩;rw [enter (sf:=f56) rfl rfl];simp [f56,D7,i2,i6,wl,h2,h6,H,y1,y2,y3,y4,y5,y6,a.1,a.2,L row a.1,g,panics]
  | some z=>obtain⟨e,r2⟩:=z;rw [hp] at V;obtain⟨c8,c9,W,Y,M',N,g,X,gq,a3,te,Re⟩:=V;have a1:=te.row;refine⟨N,M',?_,X,aS.mono (aP _) (λ_ _ _=>rfl) (λi _ b=>by omega) _ _ te,Re.wide (λi _ b=>?_) λb=>by rcases b with b | b;exact C.np b;omega⟩;rw [enter (sf:=f56) rfl rfl];simp [f56,D7,i2,i6,wl,h2,h6,H,y1,y2,y3,y4,y5,y6,a.1,a.2,L row a.1,g,gq,Q N a1.1];rcases b with b | b;exact .inl b.1;exact .inr (by omega)
theorem xU (f:Nat):∀k,k<=f->CE k∧CP k∧CA k:=by
 induction f with
 | zero=>
  intro k a;obtain rfl:k=0:=by omega
  exact⟨λj n b p t S M c d g i e=>by omega,λn b p t S M c d g e=>by omega,λn b p t S M c d g e=>by omega⟩
 | succ f ih=>
  intro k a;by_cases h:k<=f;exact ih k h;obtain rfl:k=f+1:=by omega
  exact⟨acj (λk a=>(ih k a).1) (λk a=>(ih k a).2.1),ach (λk a=>(ih k a).1) (λk a=>(ih k a).2.2),acg (λk a=>(ih k a).1)⟩
theorem Zt {f:Nat}{k:Int}{t r:List Tok}{x:V4}(h:zK f k t=some (x,r)):r.length<t.length:=by
 have a:=(uq f).1;unfold zK at h;repeat' split at h
 all_goals grind
theorem Zu {f:Nat}{t r:List Tok}{x:V4}(h:wW f t=some (x,r)):r.length<t.length:=by
 have:=@Zt f;have:=@aR;have:=uq f;unfold wW at h;repeat' split at h
 all_goals grind
theorem SL (f:Nat):(∀t x r,kY f t=some (x,r)->r.length<t.length)∧(∀t x r,pU f t=some (x,r)->r.length<t.length)∧(∀l t x r,qp f l t=some (x,r)->r.length<t.length):=by
 induction f with
 | zero=>exact⟨by intro _ _ _ h;simp [kY] at h,by intro _ _ _ h;simp [pU] at h,by intro _ _ _ _ h;simp [qp] at h⟩
 | succ f ih=>
  have:=uq f;have:=@Zu f;have:=@aR;obtain⟨a,b,c⟩:=ih;refine⟨λt x r h=>?_,λt x r h=>?_,λl t x r h=>?_⟩
  ·rw [kY] at h;repeat' split at h
   all_goals grind
  ·rw [pU] at h;repeat' split at h
   all_goals grind
  ·rw [qp] at h;repeat' split at h
   all_goals grind
theorem Qs (f:Nat)(t:List Tok)(x:V4)(r:List Tok)(h:kY f t=some (x,r))(y:Tok)(a:y∈r):y∈t:=(aec f).1 t x r h y a
def ajW (S:Nat->Prop)(p:Nat)(M:Mem)(r:Option (V4×List Tok))(o:dU):Prop:=match r with
 | none=>∃M',o=some [⟨panics,M'⟩]∧bT p M M'
 | some (e,t)=>∃row M',o=some [⟨.agg row,M'⟩]∧bT p M M'∧nI M' (λi=>M.nx<=i) e row∧RD (λi=>S i∨M.nx<=i) p M' t
def ajX (S:Nat->Prop)(p:Nat)(M:Mem)(r:Option (List V4×List Tok))(o:dU):Prop:=match r with
 | none=>∃M',o=some [⟨panics,M'⟩]∧bT p M M'
 | some (l,t)=>∃v M',o=some [⟨v,M'⟩]∧bT p M M'∧aG M' (λi=>M.nx<=i) l v∧RD (λi=>S i∨M.nx<=i) p M' t
def CS (f:Nat):Prop:=∀(n fu p:Nat) (t:List Tok) (S:Nat->Prop) (M:Mem),RD S p M t->Ur t->t.length<=10000->10*t.length+12<=f->f+40<=n->20000<=fu->
 ajW S p M (kY f t) (r9 KW fu n (.func 29) [.ptr p 0] M)
def CM (f:Nat):Prop:=∀(n fu p:Nat) (t:List Tok) (S:Nat->Prop) (M:Mem),RD S p M t->Ur t->t.length<=10000->10*t.length+11<=f->f+40<=n->20000<=fu->
 ajW S p M (wW f t) (r9 KW fu n (.func 58) [.ptr p 0] M)
def CB (f:Nat):Prop:=∀(n fu p:Nat) (t:List Tok) (S:Nat->Prop) (M:Mem),RD S p M t->Ur t->t.length<=10000->10*t.length+5<=f->f+40<=n->20000<=fu->
 ajX S p M (pU f t) (r9 KW fu n (.func 57) [.ptr p 0] M)
theorem aq3 (z:List o7)(ps:List (Nat×Nat×OF))(ls:List o7)(env:T o7)(nid:Nat)(h:z.length=5):P7 5 1 z ps ls env nid=ob (lay ps ls env z) λcells=>if cells.length=5 then some (.slice nid 0 1 1,some (o9 cells)) else none:=iZ 5 z ps ls env nid h
theorem aq4 {row:List o7}(h:row.length=5){x:OF}{ls:List o7}{env:T o7}(a:x ls env=.agg row):lay [(0,5,x)] ls env (r5 0 [] nS nS nS)=some row:=by rw [Mq];simp only [a,Cz,h];simp [h]
structure Qt (lo:Nat)(S T:Nat->Prop)(M:Mem)(v:o7)(l:List V4):Prop where
 own:∃rows,bZ lo 5 M v rows∧I4 M T l rows
 apartT:∀i o n e,v=.sliceU i o n e->¬ T i
 apartS:∀i o n e,v=.sliceU i o n e->¬ S i
 WQ:∀i,T i->lo<=i
theorem acn {f n fu p lo:Nat}(hE:∀k,k<=f->CS k)(hn:f+40<=n)(hfu:20000<=fu)(hpl:p<lo):∀(k:Nat),k<=f+1->∀(t:List Tok) (acc:List V4) (v c1:o7) (S T:Nat->Prop) (M:Mem) (N:Nat),RD S p M t->Ur t->t.length<=10000->acc.length+t.length<=10010->10*t.length+13<=k->
  Qt lo S T M v acc->lo<=M.nx->M.lim<=lo->t.length+1<=N->
  match qp k acc t with
  | none=>∃c1' v' M',K8 (λenv m k=>DY (r9 KW fu n) fu none env m k) N (Wp (.ptr p 0) c1 v nS) M []=some [⟨.ret,(Wp (.ptr p 0) c1' v' nS),M',[],some (.iface 58 (.agg []))⟩]∧Fr lo p M M'
  | some (l,r)=>∃c1' v' M' T',K8 (λenv m k=>DY (r9 KW fu n) fu none env m k) N (Wp (.ptr p 0) c1 v nS) M []=some [⟨.exit 0,(Wp (.ptr p 0) c1' v' nS),M',[],none⟩]∧Fr lo p M M'∧Qt lo (λi=>False) T' M' v' l∧RD (λi=>S i∨M.nx<=i) p M' r:=by
 intro k;induction k with
 | zero=>intro hk t acc v c1 S T M N hR hW ht hac hm;omega
 | succ k ih=>
  intro hk t acc v c1 S T M N hR hW ht hac hm hA hlo hlim hN;obtain⟨N,rfl⟩:∃k,N=k+1:=⟨N-1,by omega⟩;obtain⟨n',rfl⟩:∃k,n=k+3:=⟨n-3,by omega⟩;obtain⟨M1,g1,X1,R1⟩:=mo hR 125 [] n' fu;rw [qp];unfold jL at R1;obtain⟨rows,o1,o2⟩:=hA.own;have tp:∀i,T i->i≠p:=λi hi=>by have:=hA.WQ i hi;omega
  have rowsM1:bZ lo 5 M1 v rows:=o1.keep X1.nx λi h1 h2=>X1.old i h2 (by omega);have treeM1:I4 M1 T acc rows:=I4.mono X1.nx (λi hi ht=>X1.old i hi (tp i ht)) (λ_ _ h=>h) _ _ o2;cases hp:bC [125] t with
  | false=>
   rw [hp] at g1 R1;simp only [Xd,if_false] at R1 ⊢;have hx:=hE k (by omega) (n'+3) fu p t _ M1 R1 hW (by omega) (by omega) (by omega) hfu;cases hq:kY k t with
   | none=>rw [hq] at hx;obtain⟨M2,g2,X2⟩:=hx;simp only;refine⟨.bool true,v,M2,?_,(X1.trans X2).fr hlo⟩;have g2':r9 KW fu (n'+3) (.func 29) [.ptr p 0] M1=_:=g2;rw [A8];simp [DY,g1,g2',panics]
   | some q=>
    obtain⟨y,r⟩:=q;rw [hq] at hx;obtain⟨row,M2,g2,X2,hr,R2⟩:=hx;simp only;have hr4:=hr.row;have E3:=H7 X2.ok [o9 row];have vlt:∀i o n e,v=.sliceU i o n e->lo<=i∧i<M.nx:=λi o n e hv=>o1.lt hv;have X12:=X1.trans X2;have rowsM3:bZ lo 5 (ext M2 [o9 row]) v rows:=(rowsM1.keep X2.nx λi h1 h2=>X2.old i h2 (by omega)).ext E3;have hxr:fT (ext M2 [o9 row]) 5 (.slice M2.nx 0 1 1) [row]:=by have:=zx X2.ok row (by omega);rw [hr4.1] at this;exact this
    have n3:(ext M2 [o9 row]).nx=M2.nx+1:=(by simp);have hrl:=I4.len o2;obtain⟨v5,M5,gb,ho5,F5,old5⟩:=EO (lo:=lo) (rs:=5) (bytes:=96) (r:=row) E3.ok (by rw [E3.lim,X12.lim];exact hlim) (by have:=X12.nx;omega) (by omega) rowsM3 hxr hr4.1 hr4.2 (by rw [hrl];omega) ⟨by omega,by omega⟩;have po:=Jp ho5.slice;have g5:∀i,i<M2.nx->(∀o n e,v≠.sliceU i o n e)->M5.get i=M2.get i:=λi hi hv=>(by rw [old5 i (by omega) hv,E3.old i hi]);have hM1:=X1.nx;have hM2:=X2.nx;have hacc:Qt lo (λi=>(S i∨M.nx<=i)∧i<M2.nx+1) (λi=>(T i∨M1.nx<=i)∧i<M2.nx+1) M5 v5 (acc ++ [y]):=by
     refine⟨⟨rows ++ [row],ho5.down (by omega),I4.snoc ?_ ?_⟩,λi o n e hv h=>?_,λi o n e hv h=>?_,λi h=>?_⟩;refine I4.mono (by have:=F5.nx;omega) (λi hi ht=>?_) (λi hi ht=>⟨.inl ht,by omega⟩) _ _ treeM1;rw [g5 i (by omega) (λo n e hv=>hA.apartT i o n e hv ht),X2.old i hi (tp i ht)];refine nI.mono (by have:=F5.nx;omega) (λi hi ht=>?_) (λi hi ht=>⟨.inr ht,by omega⟩) _ _ hr;exact g5 i hi λo n e hv=>by have:=(vlt i o n e hv).2;omega
     have:=(ho5.lt hv).1;rw [n3] at this;omega;have:=(ho5.lt hv).1;rw [n3] at this;omega;rcases h.1 with h | h;exact hA.WQ i h;omega
    have hnp:¬ ((S p∨M.nx<=p)∧p<M2.nx+1):=λh=>by rcases h.1 with h | h;exact hR.np h;omega
    have R5:RD (λi=>(S i∨M.nx<=i)∧i<M2.nx+1) p M5 r:=by refine R2.mono F5.ok (by have:=F5.nx;omega) (F5.lim.trans E3.lim) (g5 p R2.lt λo n e hv=>by have:=(vlt p o n e hv).1;omega) (λi hi hs=>g5 i hi λo n e hv=>?_) (λi hi hs=>⟨?_,by omega⟩) hnp;have:=vlt i o n e hv;rcases hs with hs | hs;rcases hs with hs | hs;exact hA.apartS i o n e hv hs;omega;omega;rcases hs with hs | hs;exact hs;exact .inr (by omega)
    have hrl2:=(SL k).1 _ _ _ hq;have Fall:Fr lo p M M5:=((X12.fr hlo).trans (E3.fr (by omega))).trans (F5.mono (aP _));have step:∀N,K8 (λenv m k=>DY (r9 KW fu (n'+3)) fu none env m k) (N+1) (Wp (.ptr p 0) c1 v nS) M []=K8 (λenv m k=>DY (r9 KW fu (n'+3)) fu none env m k) N (Wp (.ptr p 0) tt v5 nS) M5 []:=λN=>by have g2':r9 KW fu (n'+3) (.func 29) [.ptr p 0] M1=_:=g2;have l5:=λx ls env hx=>aq4 hr4.1 (x:=x) (ls:=ls) (env:=env) hx;rw [A8];simp [DY,D7,g1,g2',aq3,l5,hr4.1,gb,po]
    have hrec:=ih (by omega) r (acc ++ [y]) v5 tt _ _ M5 N R5 (λx hx=>?_) (by omega) (by simp;omega) (by omega) hacc (by have:=F5.nx;omega) (by rw [F5.lim,E3.lim,X12.lim];exact hlim) (by omega);rw [step];cases hm:qp k (acc ++ [y]) r with
    | none=>rw [hm] at hrec;obtain⟨c1',v',M',g,F⟩:=hrec;exact⟨c1',v',M',g,Fall.trans F⟩
    | some q=>rw [hm] at hrec;obtain⟨c1',v',M',T',g,F,A,R⟩:=hrec;refine⟨c1',v',M',T',g,Fall.trans F,A,R.wide (λi hi hs=>?_) λhp=>by rcases hp with hp | hp;exact hR.np hp;omega⟩;rcases hs with hs | hs;exact hs.1;exact .inr (by have:=F5.nx;omega)
    exact hW x (Qs k _ _ _ hq x hx)
  | true=>rw [hp] at g1 R1;simp only [if_true] at R1 ⊢;refine⟨.bool false,v,M1,T,?_,X1.fr hlo,⟨⟨rows,rowsM1,treeM1⟩,hA.apartT,λ_ _ _ _ _ h=>h,hA.WQ⟩,R1⟩;rw [A8];simp [DY,g1]
theorem aco {f:Nat}(C:∀k,k<=f->CS k):CB (f+1):=by
 intro n fu p t S M m D K I J w;obtain⟨n,rfl⟩:∃k,n=k+5:=⟨n-5,by omega⟩;obtain⟨M1,b,X1,R1⟩:=CX m 123 [] n fu;have v:=X1.nx;have x:=m.lt;unfold jL at R1;rw [pU];cases hp:bC [123] t with
 | false=>rw [hp] at b;simp only [Xd,if_false] at b ⊢;refine⟨M1,?_,X1⟩;rw [enter (sf:=f57) rfl rfl];simp [f57,b,panics]
 | true=>
  have H:=aR hp;rw [hp] at b R1;simp only [if_true] at b R1 ⊢;have c:Qt M.nx (λi=>(S i∨M.nx<=i)) (λi=>M.nx<=i) M1 nS []:=
   ⟨⟨[],bZ.nil _ _ _,rfl⟩,λi o n e y=>(by cases y),λi o n e y=>(by cases y),λi h=>h⟩
  have j:=acn (f:=f) (n:=n+4) (fu:=fu) (p:=p) (lo:=M.nx) C (by omega) w x f (by omega) (t.drop 1) [] nS .undef (_) _ M1 fu R1 (D.drop 1) (by simp;omega) (by simp;omega) (by simp;omega) c v (by rw [X1.lim];exact m.lF) (by simp;omega);cases hq:qp f [] (t.drop 1) with
  | none=>rw [hq] at j;obtain⟨u,A,M',g,F⟩:=j;refine⟨M',?_,Fr.toB X1 F (aP _)⟩;rw [enter (sf:=f57) rfl rfl];simp [f57,b,g,panics]
  | some q=>
   obtain⟨l,r⟩:=q;rw [hq] at j;obtain⟨u,A,M',T',g,F,⟨⟨d,z,E⟩,_,_,B⟩,R3⟩:=j;have G:=Jp z.slice;refine⟨A,M',?_,Fr.toB X1 F (aP _),⟨d,z.s,I4.mono (aP _) (λ_ _ _=>rfl) (λi _ h=>B i h) _ _ E⟩,R3.wide (λi _ a=>?_) λa=>by rcases a with a | a;exact m.np a;omega⟩
   rw [enter (sf:=f57) rfl rfl];simp [f57,b,g,G];rcases a with a | a;exact a;exact .inr (by omega)
theorem Bt {M:Mem}{lo:Nat}{x:Ex}{row:List o7}(f:M.Ok)(h:aS M (λi=>lo<=i) x row)(b:lo<=M.nx):jK (ext M [o9 row]) (λi=>lo<=i) [x] (.slice M.nx 0 1 1):=by obtain⟨v,a,c,d,e⟩:=SK f h b 0;cases c;exact⟨a,d,e⟩
theorem Zv (f:Nat)(t:List Tok)(x:List V4)(r:List Tok)(h:pU f t=some (x,r))(y:Tok)(a:y∈r):y∈t:=(aec f).2.1 t x r h y a
theorem acp {f:Nat}(hB:∀k,k<=f->CB k)(ah:∀k,k<=f->CM k):CS (f+1):=by
 intro n D p t S M hR hW ht hm hn H;obtain⟨n,rfl⟩:∃k,n=k+6:=⟨n-6,by omega⟩;have hM:=hR.ok;have aw:=hR.lt;have ac:=hR.lF;have E1:=H7 hM [o9 (r5 0 [] nS nS nS)];have n1:(ext M [o9 (r5 0 [] nS nS nS)]).nx=M.nx+1:=by simp
 have ai:=hR.fence.ext E1;have ae:(ext M [o9 (r5 0 [] nS nS nS)]).get M.nx=some (o9 (r5 0 [] nS nS nS)):=by rw [F7 hM];rfl
 have a4:∀(M3:Mem),bT p (ext M [o9 (r5 0 [] nS nS nS)]) M3->M3.get M.nx=some (o9 (r5 0 [] nS nS nS))∧M.nx<M3.nx∧M3.lim<=M.nx∧bT p M M3:=λM3 X=>by have:=X.nx;exact⟨by rw [X.old _ (by omega) (by omega),ae],by omega,by rw [X.lim,E1.lim];exact ac,E1.toB.trans X⟩
 rw [kY];obtain⟨M1,G,X1,R1⟩:=mo ai 105 [102] (n+2) D;have aq:=X1.nx;unfold jL at R1;cases hif:bC [105,102] t with
 | true=>
  have hl:=aR hif;rw [hif] at G R1;simp only [if_true] at R1 ⊢;obtain⟨M2,rfl⟩:∃M2,M2=M1:=⟨_,rfl⟩;have R2:=R1;have X12:=X1;have v:=(xU f f (aP _)).1 0 (n+5) D p (t.drop 1) _ _ R2 (hW.drop 1) (by simp;omega) (by omega) (by simp;omega) (by omega) H;cases hq:aj f 0 (t.drop 1) with
  | none=>rw [hq] at v;obtain⟨M3,J,X3⟩:=v;have g:r9 KW D (n+5) (.func 56) [.ptr p 0,iV 0] _=_:=J;refine⟨M3,?_,E1.toB.trans (X12.trans X3)⟩;rw [enter (sf:=f29) rfl rfl];simp [f29,D7,F6,G,g,panics]
  | some q=>
   obtain⟨x,r⟩:=q;rw [hq] at v;obtain⟨a,M3,J,X3,hr,R3⟩:=v;have g:r9 KW D (n+5) (.func 56) [.ptr p 0,iV 0] _=_:=J;have d:=hr.row;have V:=X3.nx;have a9:=(uq f).1 _ _ _ _ hq;simp at a9;have l4:=λx ls env v=>Ni d.1 (x:=x) (ls:=ls) (env:=env) v;have E4:=H7 X3.ok [o9 a,o9 (r5 3 [] (.slice M3.nx 0 1 1) nS nS)];have n4:(ext M3 [o9 a,o9 (r5 3 [] (.slice M3.nx 0 1 1) nS nS)]).nx=M3.nx+2:=by simp
   have E4a:=H7 X3.ok [o9 a];have E4b:Ext (ext M3 [o9 a]) (ext M3 [o9 a,o9 (r5 3 [] (.slice M3.nx 0 1 1) nS nS)]):=(Ext.refl E4a.ok).new _;obtain⟨s,a5,a6⟩:=Bt X3.ok hr V;have an:(ext M3 [o9 a]).nx=M3.nx+1:=by simp
   obtain⟨N,O,P,Q,R,T⟩:=qo X3.ok R3.lF;have R4:=R3.fence.ext E4;have a7:(ext M3 [o9 a,o9 (r5 3 [] (.slice M3.nx 0 1 1) nS nS)]).get (M3.nx+1)=some (o9 (r5 3 [] (.slice M3.nx 0 1 1) nS nS)):=by rw [bR X3.ok];rfl
   have W:=hB f (aP _) (n+5) D p r _ _ R4 (λz hz=>hW z (aaA (pV f 0 _ _ _ hq z hz))) (by omega) (by omega) (by omega) H;simp only;cases hq2:pU f r with
   | none=>rw [hq2] at W;obtain⟨M5,E,X5⟩:=W;refine⟨M5,?_,E1.toB.trans (X12.trans (X3.trans (E4.toB.trans X5)))⟩;rw [enter (sf:=f29) rfl rfl];simp [f29,D7,F6,G,g,wY,l4,d.1,N,O,P,Q,R,T,E,panics]
   | some q=>
    obtain⟨th,r2⟩:=q;rw [hq2] at W;obtain⟨c,M5,E,X5,⟨u,j,a0⟩,R5⟩:=W;have ab:=X5.nx;have po:=Jp j.slice;have ct:=j.slice.cells;have ot:=j.slice.H6;have w:M3.nx+1<M5.nx:=(by omega);have l5:M5.lim<=M3.nx+1:=by rw [X5.lim,E4.lim];have:=R3.lF;omega
    have K:M5.get (M3.nx+1)=some (o9 (r5 3 [] (.slice M3.nx 0 1 1) nS nS)):=(X5.old _ (by omega) (by omega)).trans a7;have L:=sB l5;have A:(M5.set (M3.nx+1) (o9 (r5 3 [] (.slice M3.nx 0 1 1) c nS))).Ok:=Mem.Ok.set X5.ok w _;have a8:(M5.set (M3.nx+1) (o9 (r5 3 [] (.slice M3.nx 0 1 1) c nS))).get (M3.nx+1)=some (o9 (r5 3 [] (.slice M3.nx 0 1 1) c nS)):=D6 X5.ok _ w rfl;have X15:=X12.trans (X3.trans (E4.toB.trans X5));have X16:bT p (ext M [o9 (r5 0 [] nS nS nS)]) (M5.set (M3.nx+1) (o9 (r5 3 [] (.slice M3.nx 0 1 1) c nS))):=⟨A,X15.nx,X15.lim,λi e hn=>by rw [w9 X5.ok _ w (by omega),X15.old i e hn]⟩;simp only;have R6:=RD.mono (M':=M5.set (M3.nx+1) (o9 (r5 3 [] (.slice M3.nx 0 1 1) c nS))) R5 A (aP _) rfl (w9 X5.ok _ w (by omega)) (λi e b=>w9 X5.ok _ w (by rcases b with b | b<;>omega)) (λ_ _ h=>h) R5.np
    obtain⟨M7,g7,X7,R7⟩:=mo R6 101 [108,115,101] (n+2) D;have ak:M5.nx<=M7.nx:=X7.nx;unfold jL at R7;have U:M7.get (M3.nx+1)=some (o9 (r5 3 [] (.slice M3.nx 0 1 1) c nS)):=(X7.old _ w (by omega)).trans a8;have X17:=X16.trans X7;cases hel:bC [101,108,115,101] r2 with
    | false=>
     rw [hel] at g7 R7;simp only [Xd,if_false] at R7 ⊢;obtain⟨q1,o,q3,q4⟩:=a4 _ X17;have C:=sB q3;have gs:∀B,(M7.set M.nx B).get M.nx=some B:=λB=>D6 X7.ok _ o rfl;have F:=fin hR q4 o R7 (λi e b=>by
      rcases b with (⟨(b | b) | b,_⟩ | b) | b;exact .inl b;exact .inr (by omega);exact .inr (by omega);exact .inr (by omega);have:M5.nx<=i:=b;exact .inr (by omega)) (o9 (r5 3 [] (.slice M3.nx 0 1 1) c nS))
     have k1:∀i,i<(ext M3 [o9 a]).nx->M2.nx<=i->(M7.set M.nx (o9 (r5 3 [] (.slice M3.nx 0 1 1) c nS))).get i=(ext M3 [o9 a]).get i:=λi e b=>(by rw [w9 X7.ok _ o (by omega),X7.old i (by show i<M5.nx;omega) (by omega),w9 X5.ok _ w (by omega),X5.old i (by omega) (by omega),E4b.old i e]);have k2:∀i,i<M5.nx->(ext M3 [o9 a,o9 (r5 3 [] (.slice M3.nx 0 1 1) nS nS)]).nx<=i->(M7.set M.nx (o9 (r5 3 [] (.slice M3.nx 0 1 1) c nS))).get i=M5.get i:=λi e b=>(by rw [w9 X7.ok _ o (by omega),X7.old i e (by omega),w9 X5.ok _ w (by omega)]);have a1:(ext M3 [o9 a]).nx<=(M7.set M.nx (o9 (r5 3 [] (.slice M3.nx 0 1 1) c nS))).nx:=(by show _<=M7.nx;omega);have a2:M5.nx<=(M7.set M.nx (o9 (r5 3 [] (.slice M3.nx 0 1 1) c nS))).nx:=ak;refine⟨(r5 3 [] (.slice M3.nx 0 1 1) c nS),_,?_,F.1,⟨(.slice M3.nx 0 1 1),c,nS,s,u,[],rfl,a5.mono a1 k1 (λi _ h=>by omega),I7.mono a1 k1 (λi _ h=>by omega) _ _ a6,j.mono a2 k2 (λi _ h=>by omega),I4.mono a2 k2 (λi _ h=>by omega) _ _ a0,.inl ⟨rfl,rfl⟩,rfl⟩,F.2⟩;rw [enter (sf:=f29) rfl rfl];simp [f29,D7,F6,G,g,wY,l4,d.1,N,O,P,Q,R,T,E,po,ct,ot,L,K,U,g7,C,q1,gs]
    | true=>
     rw [hel] at g7 R7;simp only [if_true] at R7 ⊢;have av:=(SL f).2.1 _ _ _ hq2;have Y:=hB f (aP _) (n+5) D p (r2.drop 1) _ _ R7 (λz hz=>hW z (aaA (pV f 0 _ _ _ hq z (Zv f _ _ _ hq2 z (aaA hz))))) (by simp;omega) (by simp;omega) (by omega) H;cases hq3:pU f (r2.drop 1) with
     | none=>rw [hq3] at Y;obtain⟨M8,g8,X8⟩:=Y;refine⟨M8,?_,E1.toB.trans (X17.trans X8)⟩;rw [enter (sf:=f29) rfl rfl];simp [f29,D7,F6,G,g,wY,l4,d.1,N,O,P,Q,R,T,E,po,ct,ot,L,K,U,g7,g8,panics]
     | some q=>
      obtain⟨el,r3⟩:=q;rw [hq3] at Y;obtain⟨l,M8,g8,X8,⟨aa,Z,al⟩,R8⟩:=Y;have au:=X8.nx;have ao:=Jp Z.slice;have cf:=Z.slice.cells;have of:=Z.slice.H6;have q8:M3.nx+1<M8.nx:=(by omega);have l8:M8.lim<=M3.nx+1:=(by rw [X8.lim,X7.lim];exact l5);have af:M8.get (M3.nx+1)=some (o9 (r5 3 [] (.slice M3.nx 0 1 1) c nS)):=(X8.old _ (by omega) (by omega)).trans U;have ap:=sB l8;have I:(M8.set (M3.nx+1) (o9 (r5 3 [] (.slice M3.nx 0 1 1) c l))).Ok:=Mem.Ok.set X8.ok q8 _;have ag:(M8.set (M3.nx+1) (o9 (r5 3 [] (.slice M3.nx 0 1 1) c l))).get (M3.nx+1)=some (o9 (r5 3 [] (.slice M3.nx 0 1 1) c l)):=D6 X8.ok _ q8 rfl;have X18:=X17.trans X8;have X19:bT p (ext M [o9 (r5 0 [] nS nS nS)]) (M8.set (M3.nx+1) (o9 (r5 3 [] (.slice M3.nx 0 1 1) c l))):=⟨I,X18.nx,X18.lim,λi e hn=>by rw [w9 X8.ok _ q8 (by omega),X18.old i e hn]⟩;have R9:=RD.mono (M':=M8.set (M3.nx+1) (o9 (r5 3 [] (.slice M3.nx 0 1 1) c l))) R8 I (aP _) rfl (w9 X8.ok _ q8 (by omega)) (λi e b=>w9 X8.ok _ q8 (by
       rcases b with ((b | b) | b) | b;omega;omega;have:M5.nx<=i:=b;omega;omega)) (λ_ _ h=>h) R8.np
      obtain⟨q1,o,q3,q4⟩:=a4 _ X19;have C:=sB q3;have gs:∀B,((M8.set (M3.nx+1) (o9 (r5 3 [] (.slice M3.nx 0 1 1) c l))).set M.nx B).get M.nx=some B:=λB=>D6 I _ o rfl;have F:=fin hR q4 o R9 (λi e b=>by
       rcases b with ((⟨(b | b) | b,_⟩ | b) | b) | b;exact .inl b;exact .inr (by omega);exact .inr (by omega);exact .inr (by omega);have:M5.nx<=i:=b;exact .inr (by omega);exact .inr (by omega)) (o9 (r5 3 [] (.slice M3.nx 0 1 1) c l))
      have k1:∀i,i<(ext M3 [o9 a]).nx->M2.nx<=i->((M8.set (M3.nx+1) (o9 (r5 3 [] (.slice M3.nx 0 1 1) c l))).set M.nx (o9 (r5 3 [] (.slice M3.nx 0 1 1) c l))).get i=(ext M3 [o9 a]).get i:=λi e b=>(by rw [w9 I _ o (by omega),w9 X8.ok _ q8 (by omega),X8.old i (by omega) (by omega),X7.old i (by show i<M5.nx;omega) (by omega),w9 X5.ok _ w (by omega),X5.old i (by omega) (by omega),E4b.old i e]);have k2:∀i,i<M5.nx->(ext M3 [o9 a,o9 (r5 3 [] (.slice M3.nx 0 1 1) nS nS)]).nx<=i->((M8.set (M3.nx+1) (o9 (r5 3 [] (.slice M3.nx 0 1 1) c l))).set M.nx (o9 (r5 3 [] (.slice M3.nx 0 1 1) c l))).get i=M5.get i:=λi e b=>(by rw [w9 I _ o (by omega),w9 X8.ok _ q8 (by omega),X8.old i (by omega) (by omega),X7.old i e (by omega),w9 X5.ok _ w (by omega)]);have k3:∀i,i<M8.nx->M7.nx<=i->((M8.set (M3.nx+1) (o9 (r5 3 [] (.slice M3.nx 0 1 1) c l))).set M.nx (o9 (r5 3 [] (.slice M3.nx 0 1 1) c l))).get i=M8.get i:=λi e b=>by rw [w9 I _ o (by omega),w9 X8.ok _ q8 (by omega)]
      have a1:(ext M3 [o9 a]).nx<=((M8.set (M3.nx+1) (o9 (r5 3 [] (.slice M3.nx 0 1 1) c l))).set M.nx (o9 (r5 3 [] (.slice M3.nx 0 1 1) c l))).nx:=(by show _<=M8.nx;omega);have a2:M5.nx<=((M8.set (M3.nx+1) (o9 (r5 3 [] (.slice M3.nx 0 1 1) c l))).set M.nx (o9 (r5 3 [] (.slice M3.nx 0 1 1) c l))).nx:=(by show _<=M8.nx;omega);have a3:M8.nx<=((M8.set (M3.nx+1) (o9 (r5 3 [] (.slice M3.nx 0 1 1) c l))).set M.nx (o9 (r5 3 [] (.slice M3.nx 0 1 1) c l))).nx:=aP _;refine⟨(r5 3 [] (.slice M3.nx 0 1 1) c l),_,?_,F.1,⟨(.slice M3.nx 0 1 1),c,l,s,u,aa,rfl,a5.mono a1 k1 (λi _ h=>by omega),I7.mono a1 k1 (λi _ h=>by omega) _ _ a6,j.mono a2 k2 (λi _ h=>by omega),I4.mono a2 k2 (λi _ h=>by omega) _ _ a0,Z.mono a3 k3 (λi _ h=>by omega),I4.mono a3 k3 (λi _ h=>by omega) _ _ al⟩,F.2⟩;rw [enter (sf:=f29) rfl rfl];simp [f29,D7,F6,G,g,wY,l4,d.1,N,O,P,Q,R,T,E,po,ct,ot,L,K,U,g7,g8,ao,cf,of,ap,af,ag,C,q1,gs]
 | false=>
  rw [hif] at G R1;simp only [Xd,if_false] at R1 ⊢;obtain⟨M2,g2,X2,R2⟩:=mo R1 119 [104,105,108,101] (n+2) D;have ar:=X2.nx;have X12:=X1.trans X2;unfold jL at R2;cases hwh:bC [119,104,105,108,101] t with
  | true=>
   have hl:=aR hwh;rw [hwh] at g2 R2;simp only [if_true] at R2 ⊢;have v:=(xU f f (aP _)).1 0 (n+5) D p (t.drop 1) _ _ R2 (hW.drop 1) (by simp;omega) (by omega) (by simp;omega) (by omega) H;cases hq:aj f 0 (t.drop 1) with
   | none=>rw [hq] at v;obtain⟨M3,J,X3⟩:=v;have g:r9 KW D (n+5) (.func 56) [.ptr p 0,iV 0] _=_:=J;refine⟨M3,?_,E1.toB.trans (X12.trans X3)⟩;rw [enter (sf:=f29) rfl rfl];simp [f29,D7,F6,G,g2,g,panics]
   | some q=>
    obtain⟨x,r⟩:=q;rw [hq] at v;obtain⟨a,M3,J,X3,hr,R3⟩:=v;have g:r9 KW D (n+5) (.func 56) [.ptr p 0,iV 0] _=_:=J;have d:=hr.row;have V:=X3.nx;have a9:=(uq f).1 _ _ _ _ hq;simp at a9;have l4:=λx ls env v=>Ni d.1 (x:=x) (ls:=ls) (env:=env) v;have E4:=H7 X3.ok [o9 a,o9 (r5 4 [] (.slice M3.nx 0 1 1) nS nS)];have n4:(ext M3 [o9 a,o9 (r5 4 [] (.slice M3.nx 0 1 1) nS nS)]).nx=M3.nx+2:=(by simp);have E4a:=H7 X3.ok [o9 a];have E4b:Ext (ext M3 [o9 a]) (ext M3 [o9 a,o9 (r5 4 [] (.slice M3.nx 0 1 1) nS nS)]):=(Ext.refl E4a.ok).new _;obtain⟨s,a5,a6⟩:=Bt X3.ok hr V;have an:(ext M3 [o9 a]).nx=M3.nx+1:=(by simp);obtain⟨N,O,P,Q,R,T⟩:=qo X3.ok R3.lF;have R4:=R3.fence.ext E4;have a7:(ext M3 [o9 a,o9 (r5 4 [] (.slice M3.nx 0 1 1) nS nS)]).get (M3.nx+1)=some (o9 (r5 4 [] (.slice M3.nx 0 1 1) nS nS)):=(by rw [bR X3.ok];rfl);have W:=hB f (aP _) (n+5) D p r _ _ R4 (λz hz=>hW z (aaA (pV f 0 _ _ _ hq z hz))) (by omega) (by omega) (by omega) H;simp only;cases hq2:pU f r with
    | none=>rw [hq2] at W;obtain⟨M5,E,X5⟩:=W;refine⟨M5,?_,E1.toB.trans (X12.trans (X3.trans (E4.toB.trans X5)))⟩;rw [enter (sf:=f29) rfl rfl];simp [f29,D7,F6,G,g2,g,wY,l4,d.1,N,O,P,Q,R,T,E,panics]
    | some q=>
     obtain⟨th,r2⟩:=q;rw [hq2] at W;obtain⟨c,M5,E,X5,⟨u,j,a0⟩,R5⟩:=W;have ab:=X5.nx;have po:=Jp j.slice;have ct:=j.slice.cells;have ot:=j.slice.H6;have w:M3.nx+1<M5.nx:=(by omega);have l5:M5.lim<=M3.nx+1:=by rw [X5.lim,E4.lim];have:=R3.lF;omega
     have K:M5.get (M3.nx+1)=some (o9 (r5 4 [] (.slice M3.nx 0 1 1) nS nS)):=(X5.old _ (by omega) (by omega)).trans a7;have L:=sB l5;have A:(M5.set (M3.nx+1) (o9 (r5 4 [] (.slice M3.nx 0 1 1) c nS))).Ok:=Mem.Ok.set X5.ok w _;have a8:(M5.set (M3.nx+1) (o9 (r5 4 [] (.slice M3.nx 0 1 1) c nS))).get (M3.nx+1)=some (o9 (r5 4 [] (.slice M3.nx 0 1 1) c nS)):=D6 X5.ok _ w rfl;have X15:=X12.trans (X3.trans (E4.toB.trans X5));have X16:bT p (ext M [o9 (r5 0 [] nS nS nS)]) (M5.set (M3.nx+1) (o9 (r5 4 [] (.slice M3.nx 0 1 1) c nS))):=⟨A,X15.nx,X15.lim,λi e hn=>by rw [w9 X5.ok _ w (by omega),X15.old i e hn]⟩;simp only;obtain⟨q1,o,q3,q4⟩:=a4 _ X16;have C:=sB q3;have gs:∀B,((M5.set (M3.nx+1) (o9 (r5 4 [] (.slice M3.nx 0 1 1) c nS))).set M.nx B).get M.nx=some B:=λB=>D6 A _ o rfl;have R6:=RD.mono (M':=M5.set (M3.nx+1) (o9 (r5 4 [] (.slice M3.nx 0 1 1) c nS))) R5 A (aP _) rfl (w9 X5.ok _ w (by omega)) (λi e b=>w9 X5.ok _ w (by rcases b with b | b<;>omega)) (λ_ _ h=>h) R5.np
     have F:=fin hR q4 o R6 (λi e b=>by
      rcases b with⟨((b | b) | b) | b,_⟩ | b;exact .inl b;exact .inr (by omega);exact .inr (by omega);exact .inr (by omega);exact .inr (by omega)) (o9 (r5 4 [] (.slice M3.nx 0 1 1) c nS))
     have k1:∀i,i<(ext M3 [o9 a]).nx->M2.nx<=i->((M5.set (M3.nx+1) (o9 (r5 4 [] (.slice M3.nx 0 1 1) c nS))).set M.nx (o9 (r5 4 [] (.slice M3.nx 0 1 1) c nS))).get i=(ext M3 [o9 a]).get i:=λi e b=>(by rw [w9 A _ o (by omega),w9 X5.ok _ w (by omega),X5.old i (by omega) (by omega),E4b.old i e]);have k2:∀i,i<M5.nx->(ext M3 [o9 a,o9 (r5 4 [] (.slice M3.nx 0 1 1) nS nS)]).nx<=i->((M5.set (M3.nx+1) (o9 (r5 4 [] (.slice M3.nx 0 1 1) c nS))).set M.nx (o9 (r5 4 [] (.slice M3.nx 0 1 1) c nS))).get i=M5.get i:=λi e b=>(by rw [w9 A _ o (by omega),w9 X5.ok _ w (by omega)]);have a1:(ext M3 [o9 a]).nx<=((M5.set (M3.nx+1) (o9 (r5 4 [] (.slice M3.nx 0 1 1) c nS))).set M.nx (o9 (r5 4 [] (.slice M3.nx 0 1 1) c nS))).nx:=(by show _<=M5.nx;omega);have a2:M5.nx<=((M5.set (M3.nx+1) (o9 (r5 4 [] (.slice M3.nx 0 1 1) c nS))).set M.nx (o9 (r5 4 [] (.slice M3.nx 0 1 1) c nS))).nx:=aP _;refine⟨(r5 4 [] (.slice M3.nx 0 1 1) c nS),_,?_,F.1,⟨(.slice M3.nx 0 1 1),c,nS,s,u,[],rfl,a5.mono a1 k1 (λi _ h=>by omega),I7.mono a1 k1 (λi _ h=>by omega) _ _ a6,j.mono a2 k2 (λi _ h=>by omega),I4.mono a2 k2 (λi _ h=>by omega) _ _ a0,.inl ⟨rfl,rfl⟩,rfl⟩,F.2⟩;rw [enter (sf:=f29) rfl rfl];simp [f29,D7,F6,G,g2,g,wY,l4,d.1,N,O,P,Q,R,T,E,po,ct,ot,L,K,a8,C,q1,gs]
  | false=>
   rw [hwh] at g2 R2;simp only [Xd,if_false] at R2 ⊢;have v:=ah f (aP _) (n+5) D p t _ _ R2 hW ht (by omega) (by omega) H;cases hq:wW f t with
   | none=>rw [hq] at v;obtain⟨M3,J,X3⟩:=v;refine⟨M3,?_,E1.toB.trans (X12.trans X3)⟩;rw [enter (sf:=f29) rfl rfl];simp [f29,D7,F6,G,g2,J,panics]
   | some q=>
    obtain⟨y,r⟩:=q;rw [hq] at v;obtain⟨a,M3,J,X3,hr,R3⟩:=v;have d:=hr.row;have E4:=H7 X3.ok [o9 a];obtain⟨M5,E,X5,R5⟩:=CX (R3.ext E4) 59 [] (n+1) D;have V:=X3.nx;have ab:=X5.nx;have n4:(ext M3 [o9 a]).nx=M3.nx+1:=(by simp);unfold jL at R5;obtain⟨N,O,P,Q,R,T⟩:=qo X3.ok R3.lF;have ad:wF (some (o9 (r5 0 [] nS nS nS))) 0 a=some (o9 a):=by rw [iY (by simp [d.1]) (by simp)];simp [d.1]
    have am:AO (some (o9 a)) 0 5=some (.agg a):=(by rw [eX (by omega) (by omega),K9,L6 (by omega)]);have XX:=X12.trans (X3.trans (E4.toB.trans X5));simp only;cases h41:bC [59] r with
    | false=>rw [h41] at E;refine⟨M5,?_,E1.toB.trans XX⟩;rw [enter (sf:=f29) rfl rfl];simp [f29,D7,F6,G,g2,J,E,N,O,P,Q,R,T,d.1,d.2,ad,panics]
    | true=>
     rw [h41] at E R5;simp only [if_true] at R5 ⊢;obtain⟨q1,o,q3,q4⟩:=a4 _ XX;have C:=sB q3;have gx:M5.get M3.nx=some (o9 a):=(by rw [X5.old _ (by omega) (by omega),F7 X3.ok];rfl);have gs:∀B,(M5.set M.nx B).get M.nx=some B:=λB=>D6 X5.ok _ o rfl;have F:=fin hR q4 o R5 (λi e b=>by
      rcases b with (((b | b) | b) | b) | b;exact .inl b;exact .inr (by omega);exact .inr (by omega);exact .inr (by omega);exact .inr (by omega)) (o9 a)
     refine⟨a,_,?_,F.1,?_,F.2⟩;rw [enter (sf:=f29) rfl rfl];simp [f29,D7,F6,G,g2,J,E,N,O,P,Q,R,T,d.1,d.2,ad,am,gx,gs,C,q1];refine nI.mono (m:=M3) (m':=M5.set M.nx (o9 a)) (by show M3.nx<=M5.nx;omega) (λi e b=>?_) (λi e b=>by omega) _ _ hr;rw [w9 X5.ok _ o (by omega),X5.old i (by omega) (by omega),E4.old i e]
end
end Go.Proofs.YteecnooaopfkeaaGreatDoor.TT
