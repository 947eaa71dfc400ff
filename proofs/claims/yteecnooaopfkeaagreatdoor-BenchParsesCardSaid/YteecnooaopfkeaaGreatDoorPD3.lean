/- The reader of the program, walked; conditions: the memory holds what the arguments say. -/
import Derived.Test.YteecnooaopfkeaaGreatDoorPD2
set_option linter.all false
namespace Go.Proofs.YteecnooaopfkeaaGreatDoor.TT
open Go Go.AM
noncomputable section
def wC (s:By):Nat:=if oD (s.headD 0) then 1 else 3
def V3 (s:By):List Tok->Bool
 | []=>false
 | t :: _=>decide (t=(wC s,s))
def iR (s:By)(toks:List Tok):List Tok:=if V3 s toks then toks.drop 1 else toks
def QV:List By:=[[108,101,116],[105,102],[101,108,115,101],[119,104,105,108,101],[112,114,105,110,116],[97,110,100],[111,114],[110,111,116]]
def KA (s:By):Bool:=QV.contains s
def bL:List Tok->Bool
 | []=>false
 | t :: _=>decide (t.1=1) && !KA t.2
def Tq (lv:Int):List Tok->Option Int
 | []=>none
 | t :: _=>ou lv (t.1:Int) t.2
def Tt:List Tok->Bool
 | []=>false
 | t :: _=>decide (t.1=2)
def txt (t:List Tok):By:=(t.headD (0,[])).2
mutual
def bZ:Nat->Nat->List Tok->Option (Ex×List Tok)
 | 0,_,_=>none
 | f+1,lv,t=>
  if lv=2 then
   if V3 [110,111,116] t then (match bZ f 2 (t.drop 1) with | none=>none | some (x,r)=>some (.mk 5 0 [] [x],r)) else bZ f 3 t
  else if lv=6 then
   if V3 [45] t then (match bZ f 6 (t.drop 1) with | none=>none | some (x,r)=>some (.mk 4 0 [] [x],r)) else vG f t
  else match bZ f (lv+1) t with
   | none=>none
   | some (x,r)=>mH f lv x r
def mH:Nat->Nat->Ex->List Tok->Option (Ex×List Tok)
 | 0,_,_,_=>none
 | f+1,lv,x,t=>match Tq (lv:Int) t with
  | none=>some (x,t)
  | some k=>match bZ f (lv+1) (t.drop 1) with
   | none=>none
   | some (y,r)=>if lv=3 then some (.mk k 0 [] [x,y],r) else mH f lv (.mk k 0 [] [x,y]) r
def vG:Nat->List Tok->Option (Ex×List Tok)
 | 0,_=>none
 | f+1,t=>
  if Tt t then some (.mk 1 (oF (txt t):Nat) [] [],t.drop 1)
  else if V3 [40] t then
   match bZ f 0 (t.drop 1) with
   | none=>none
   | some (x,r)=>if V3 [41] r then some (x,r.drop 1) else none
  else if bL t then
   if V3 [40] (t.drop 1) then
    if V3 [41] (t.drop 2) then some (.mk 3 0 (txt t) [],t.drop 3)
    else match kE f (t.drop 2) with
     | none=>none
     | some (l,r)=>if V3 [41] r then some (.mk 3 0 (txt t) l,r.drop 1) else none
   else some (.mk 2 0 (txt t) [],t.drop 1)
  else none
def kE:Nat->List Tok->Option (List Ex×List Tok)
 | 0,_=>none
 | f+1,t=>match bZ f 0 t with
  | none=>none
  | some (x,r)=>mJ f [x] r
def mJ:Nat->List Ex->List Tok->Option (List Ex×List Tok)
 | 0,_,_=>none
 | f+1,acc,t=>if V3 [44] t then
    match bZ f 0 (t.drop 1) with
    | none=>none
    | some (y,r)=>mJ f (acc ++ [y]) r
  else some (acc,t)
end
def yh (f:Nat)(k:Int)(t:List Tok):Option (dO×List Tok):=
 if bL t then
  if V3 [61] (t.drop 1) then
   match bZ f 0 (t.drop 2) with
   | none=>none
   | some (x,r)=>some (.mk k (txt t) [x] [] [],r)
  else none
 else none
def sS (t:List Tok):Bool:=V3 [40] (t.drop 1)&&bL t
def Gp (f:Nat)(t:List Tok):Option (dO×List Tok):=
 if V3 [112,114,105,110,116] t then
  match kE f (t.drop 1) with
  | none=>none
  | some (l,r)=>some (.mk 5 [] l [] [],r)
 else if V3 [108,101,116] t then yh f 1 (t.drop 1)
 else if sS t then
  match vG f t with
  | none=>none
  | some (x,r)=>some (.mk 6 [] [x] [] [],r)
 else yh f 2 t
mutual
def sj:Nat->List Tok->Option (dO×List Tok)
 | 0,_=>none
 | f+1,t=>
  if V3 [105,102] t then
   match bZ f 0 (t.drop 1) with
   | none=>none
   | some (x,r)=>match qx f r with
    | none=>none
    | some (th,r2)=>if V3 [101,108,115,101] r2 then
      match qx f (r2.drop 1) with
      | none=>none
      | some (el,r3)=>some (.mk 3 [] [x] th el,r3)
     else some (.mk 3 [] [x] th [],r2)
  else if V3 [119,104,105,108,101] t then
   match bZ f 0 (t.drop 1) with
   | none=>none
   | some (x,r)=>match qx f r with
    | none=>none
    | some (th,r2)=>some (.mk 4 [] [x] th [],r2)
  else match Gp f t with
   | none=>none
   | some (s,r)=>if V3 [59] r then some (s,r.drop 1) else none
def qx:Nat->List Tok->Option (List dO×List Tok)
 | 0,_=>none
 | f+1,t=>if V3 [123] t then wD f [] (t.drop 1) else none
def wD:Nat->List dO->List Tok->Option (List dO×List Tok)
 | 0,_,_=>none
 | f+1,acc,t=>if V3 [125] t then some (acc,t.drop 1) else
    match sj f t with
    | none=>none
    | some (s,r)=>wD f (acc ++ [s]) r
end
def Ci:Nat->List dO->List Tok->Option (List dO)
 | 0,_,_=>none
 | f+1,acc,t=>if t=[] then some acc else
    match sj f t with
    | none=>none
    | some (s,r)=>Ci f (acc ++ [s]) r
theorem U1 {s:By}{t:List Tok}(h:V3 s t=true):1<=t.length:=by cases t;cases h;simp
theorem nH {t:List Tok}(h:bL t=true):1<=t.length:=by cases t;cases h;simp
theorem Fp {t:List Tok}(h:Tt t=true):1<=t.length:=by cases t;cases h;simp
theorem CR {lv k:Int}{t:List Tok}(h:Tq lv t=some k):1<=t.length:=by cases t;cases h;simp
theorem oJ (f:Nat):(∀lv t x r,bZ f lv t=some (x,r)->r.length<t.length)∧(∀lv x t y r,mH f lv x t=some (y,r)->r.length<=t.length)∧(∀t x r,vG f t=some (x,r)->r.length<t.length)∧
  (∀t x r,kE f t=some (x,r)->r.length<t.length)∧(∀l t x r,mJ f l t=some (x,r)->r.length<=t.length):=by
 induction f with
 | zero=>exact⟨by intro _ _ _ _ h;simp [bZ] at h,by intro _ _ _ _ _ h;simp [mH] at h,by intro _ _ _ h;simp [vG] at h,by intro _ _ _ h;simp [kE] at h,by intro _ _ _ _ h;simp [mJ] at h⟩
 | succ f ih=>obtain⟨i1,i2,i3,i4,i5⟩:=ih;refine⟨λlv t x r h=>?_,λlv x t y r h=>?_,λt x r h=>?_,λt x r h=>?_,λl t x r h=>?_⟩;rw [bZ] at h;split at h;split at h;rename_i ha;have:=U1 ha;split at h;cases h;rename_i he;have:=i1 _ _ _ _ he;cases h;simp at this;omega;exact i1 _ _ _ _ h;split at h;split at h;rename_i ha;have:=U1 ha;split at h;cases h;rename_i he;have:=i1 _ _ _ _ he;cases h;simp at this;omega;exact i3 _ _ _ h;split at h;cases h;rename_i he;have:=i1 _ _ _ _ he;have:=i2 _ _ _ _ _ h;omega;rw [mH] at h;split at h;cases h;omega;rename_i ho;have:=CR ho;split at h;cases h;rename_i he;have h1:=i1 _ _ _ _ he;simp at h1;split at h;cases h;omega;have:=i2 _ _ _ _ _ h;omega;rw [vG] at h;split at h;rename_i ha;have:=Fp ha;cases h;simp;omega;split at h;rename_i ha;have:=U1 ha;split at h;cases h;rename_i he;have h1:=i1 _ _ _ _ he;simp at h1;split at h;cases h;simp;omega;cases h;split at h;rename_i ha;have:=nH ha;split at h;split at h;cases h;simp;omega;split at h;cases h;rename_i he;have h1:=i4 _ _ _ he;simp at h1;split at h;cases h;simp;omega;cases h;cases h;simp;omega;cases h;rw [kE] at h;split at h;cases h;rename_i he;have:=i1 _ _ _ _ he;have:=i5 _ _ _ _ h;omega;rw [mJ] at h;split at h;rename_i ha;have:=U1 ha;split at h;cases h;rename_i he;have h1:=i1 _ _ _ _ he;simp at h1;have:=i5 _ _ _ _ h;omega;cases h;omega
set_option maxRecDepth 100000
set_option maxHeartbeats 1000000
theorem pW.tail {M:Mem}{S:Nat->Prop}{rs:Nat}{v:j3}{t:List j3}{ts:List (List j3)}(hm:M.Ok)(h:pW M S rs v (t::ts)):
  ∃v' nb,(∀(y a:OF) (ls:List j3) (env:T j3),y ls env=v->a ls env=.int .i64 1->ZW rs y (some a) none ls env M.nx=some (v',nb))∧pW (bM M nb) (λi=>S i∨M.nx<=i) rs v' ts∧Ext M (bM M nb):=by
 rcases h with⟨_,h⟩ | ⟨id,o,h0,h1,h2,h3⟩;cases h;rcases h3 with h3 | ⟨n,rows,h4,h5,h6,h7⟩;cases h3;have key:ts=[]∨∃n rows,M.get id=some (.cells rs n rows)∧o+1+ts.length<=n∧(∀r,r∈ts->r.length=rs)∧∀i (h:i<ts.length),rows.get (o+1+i)=some ts[i]:=by refine .inr ⟨n,rows,h4,by simp at h5;omega,λr hr=>h6 r (by simp [hr]),λi hi=>?_⟩;have:=h7 (i+1) (by simp;omega);rw [show o+1+i=o+(i+1) from by omega,this];rfl
 have e1:Nat.add (o*rs) (Nat.mul 1 rs)=(o+1)*rs:=by rw [ae3];rfl
 rcases h1 with⟨c,rfl,hc⟩ | rfl;have hc':ts.length+1<=c:=by simpa using hc
 refine⟨.slice id (bi (Nat.beq 1 c) (o*rs) (Nat.add (o*rs) (Nat.mul 1 rs))) ts.length (c-1),none,λy a ls env hy ha=>?_,?_,Ext.refl hm⟩;show gZ (a ls env) (λl=>L9 M.nx rs (y ls env) l none)=_;rw [ha,hy];show bi (Nat.ble 1 (ts.length+1)) (bi (Nat.ble (ts.length+1) c) (some (j3.slice id (bi (Nat.beq 1 c) (o*rs) (Nat.add (o*rs) (Nat.mul 1 rs))) (Nat.sub (ts.length+1) 1) (Nat.sub c 1),none)) none) none=_;rw [show Nat.ble 1 (ts.length+1)=true from Z5 (by omega),show Nat.ble (ts.length+1) c=true from Z5 hc'];rfl;rw [eG];by_cases hc1:1=c;rw [if_pos hc1];have:ts=[]:=abZ.1 (by omega);subst this;exact .inr ⟨id,o,.inl h0,.inl ⟨c-1,rfl,by simp⟩,h2,.inl rfl⟩;rw [if_neg hc1,e1];exact .inr ⟨id,o+1,.inl h0,.inl ⟨c-1,rfl,by omega⟩,h2,key⟩;by_cases ht:ts=[];subst ht;refine⟨.sliceU M.nx 0 0 rs,some (.tail id),λy a ls env hy ha=>?_,?_,(Ext.refl hm).new _⟩;show gZ (a ls env) (λl=>L9 M.nx rs (y ls env) l none)=_;rw [ha,hy];show bi (Nat.beq rs rs) _ none=_;rw [show Nat.beq rs rs=true from ac0 rs];rfl;exact .inr ⟨M.nx,0,.inr (J2 _),.inr (by simp),by show M.nx<M.nx+1;omega,.inl rfl⟩;have hl:=afP.2 ht;refine⟨.sliceU id (Nat.add (o*rs) (Nat.mul 1 rs)) ts.length rs,none,λy a ls env hy ha=>?_,?_,Ext.refl hm⟩;show gZ (a ls env) (λl=>L9 M.nx rs (y ls env) l none)=_;rw [ha,hy];show bi (Nat.ble 1 (ts.length+1)) (bi (Nat.ble (ts.length+1) (ts.length+1)) (bi (Nat.beq rs rs) (bi (Nat.blt 1 (ts.length+1)) (some (j3.sliceU id (Nat.add (o*rs) (Nat.mul 1 rs)) (Nat.sub (ts.length+1) 1) rs,none)) _) none) none) none=_;rw [show Nat.ble 1 (ts.length+1)=true from Z5 (by omega),show Nat.ble (ts.length+1) (ts.length+1)=true from Z5 (J2 _),show Nat.beq rs rs=true from ac0 rs,show Nat.blt 1 (ts.length+1)=true from Y8.mpr (by omega)];rfl;rw [e1];exact .inr ⟨id,o+1,.inl h0,.inr rfl,h2,key⟩
structure RD (S:Nat->Prop)(p:Nat)(M:Mem)(toks:List Tok):Prop where
 ok:M.Ok
 lt:p<M.nx
 lim:M.lim<=p
 np:¬ S p
 has:∃v,M.get p=some (j4 [v])∧pW M S 2 v (H9 toks)
theorem RD.iF {S:Nat->Prop}{p:Nat}{M:Mem}{toks:List Tok}(h:RD S p M toks):M.lim<=M.nx:=Xl h.lim (afz h.lt)
theorem RD.ext {S:Nat->Prop}{p:Nat}{M M':Mem}{toks:List Tok}(h:RD S p M toks)(e:Ext M M'):RD S p M' toks:=by obtain⟨v,h1,h2⟩:=h.has;exact⟨e.ok,Xb h.lt e.nx,by rw [e.lim];exact h.lim,h.np,v,(e.old p h.lt).trans h1,h2.mono e.nx (λi hi _=>e.old i hi) λ_ _ h=>h⟩
theorem Kg {x i:OF}{ls:List j3}{env:T j3}{b:UInt8}{s:By}(hx:x ls env=.str (b::s))(hi:i ls env=.int .i64 0):sG x i ls env=some (.int .u8 (b.toNat:Nat)):=by show lJ (x ls env) (λs=>gZ (i ls env) λk=>ob (mK k s) λb=>some (j3.int .u8 b.toNat))=_;rw [hx,hi];rfl
theorem acI {S:Nat->Prop}{p:Nat}{M:Mem}{toks:List Tok}(h:RD S p M toks)(b:UInt8)(s:By)(n fu:Nat):
  o9 KW fu (n+2) (.func 95) [.ptr p 0,.str (b::s)] M=some [⟨.bool (V3 (b::s) toks),M⟩]:=by
 obtain⟨v,h1,h2⟩:=h.has;have hlen:=h2.slice.len;rw [show (H9 toks).length=toks.length from by simp [H9]] at hlen;have hb:=Pv b n fu M;have q:=λx i ls env hx hi=>Kg (x:=x) (i:=i) (ls:=ls) (env:=env) (b:=b) (s:=s) hx hi;rw [enter (sf:=f95) rfl rfl];cases toks with
 | nil=>
  cases hk:oD b<;>rw [hk] at hb <;>
  simp [f95,q,hb,h1,hlen,V3]
 | cons t ts=>
  obtain⟨k,x⟩:=t;obtain⟨id1,o1,a1,a2,a3,a4,a5⟩:=h2.slice.at (i:=0) (by simp [H9]);have a4':=a4 0 2 (by omega) (by omega);have a1':jV v none (λid off len _=>if 0<len then some (j3.ptr id off) else none) (λid off len _=>if 0<len then some (j3.ptr id off) else none)=some (.ptr id1 o1):=by simpa using a1
  simp only [aay,H9,aaZ,afG,eO,Y3,ae2,afI] at a4';have hlt:(0:Int)<((ts.length:Int)+1):=by omega
  have k3:decide ((k:Int)=3)=decide (k=3):=by rw [aas];simp only [decide_eq_true_eq];omega
  have k1:decide ((k:Int)=1)=decide (k=1):=by rw [aas];simp only [decide_eq_true_eq];omega
  cases hk:oD b<;>rw [hk] at hb <;>
  simp [f95,q,hb,h1,hlen,hlt,a1',a4',V3,wC,hk,V8,k3,k1]
theorem RD.drop {S:Nat->Prop}{p:Nat}{M:Mem}{t:Tok}{ts:List Tok}(h:RD S p M (t::ts)):∃v v' nb,M.get p=some (j4 [v])∧V7 M 2 v (H9 (t::ts))∧(∀(y a:OF) (ls:List j3) (env:T j3),y ls env=v->a ls env=.int .i64 1->ZW 2 y (some a) none ls env M.nx=some (v',nb))∧Go.AM.K5 v'=true∧v'.cells=[v']∧(bM M nb).get p=some (j4 [v])∧
  (bM M nb).lim<=p∧bg p M ((bM M nb).set p (j4 [v']))∧RD (λi=>S i∨M.nx<=i) p ((bM M nb).set p (j4 [v'])) ts:=by
 obtain⟨v,h1,h2⟩:=h.has;obtain⟨v',nb,g1,g2,g3⟩:=pW.tail (t:=eO t) (ts:=H9 ts) h.ok h2;have hlt:p<(bM M nb).nx:=Xb h.lt g3.nx;have hne:∀i,S i∨M.nx<=i->i≠p:=λi hi he=>by subst he;rcases hi with hi | hi;exact h.np hi;have:=h.lt;omega
 refine⟨v,v',nb,h1,h2.slice,g1,g2.slice.K5,g2.slice.cells,(g3.old p h.lt).trans h1,by rw [g3.lim];exact h.lim,⟨Mem.Ok.set g3.ok hlt _,by simpa using g3.nx,by simpa using g3.lim,λi hi hn=>by rw [p8 g3.ok _ hlt hn,g3.old i hi]⟩,
  Mem.Ok.set g3.ok hlt _,by simpa using hlt,by show (bM M nb).lim<=p;rw [g3.lim];exact h.lim,λhp=>by rcases hp with hp | hp;exact h.np hp;have:=h.lt;omega,v',y8 g3.ok _ hlt rfl,g2.mono (by simp) (λi hi hs=>p8 g3.ok _ hlt (hne i hs)) λ_ _ h=>h⟩
theorem RD.wide {S S':Nat->Prop}{p:Nat}{M:Mem}{toks:List Tok}(h:RD S p M toks)(hS:∀i,i<M.nx->S i->S' i)(hp:¬ S' p):RD S' p M toks:=by obtain⟨v,h1,h2⟩:=h.has;exact⟨h.ok,h.lt,h.lim,hp,v,h1,h2.mono (J2 _) (λ_ _ _=>rfl) hS⟩
theorem RD.since {S:Nat->Prop}{p:Nat}{M:Mem}{toks:List Tok}(h:RD S p M toks):RD (λi=>S i∨M.nx<=i) p M toks:=h.wide (λ_ _ h=>.inl h) λhp=>by rcases hp with hp | hp;exact h.np hp;have:=h.lt;omega
theorem bg.refl' {p:Nat}{m:Mem}(h:m.Ok):bg p m m:=⟨h,J2 _,rfl,λ_ _ _=>rfl⟩
theorem kX {S:Nat->Prop}{p:Nat}{M:Mem}{toks:List Tok}(h:RD S p M toks)(b:UInt8)(s:By)(n fu:Nat):
  ∃M',o9 KW fu (n+3) (.func 55) [.ptr p 0,.str (b::s)] M=some [⟨.bool (V3 (b::s) toks),M'⟩]∧bg p M M'∧RD (λi=>S i∨M.nx<=i) p M' (iR (b::s) toks):=by
 have g:=acI h b s n fu;unfold iR;cases hp:V3 (b::s) toks with
 | false=>rw [hp] at g;refine⟨M,?_,bg.refl' h.ok,h.since⟩;rw [enter (sf:=f55) rfl rfl];simp [f55,g]
 | true=>
  rw [hp] at g;cases toks with
  | nil=>cases hp
  | cons t ts=>obtain⟨v,v',nb,h1,h2,h3,h4,h5,h6,h7,h8,h9⟩:=h.drop;have st:=sB h7;have h3':=λy a ls env hy ha=>h3 y a ls env hy ha;refine⟨_,?_,h8,h9⟩;rw [enter (sf:=f55) rfl rfl];simp [f55,g,h1,h3',h4,h5,h6,st]
theorem amS {x:OF}{cf:F4}{ls:List j3}{env:T j3}{m:Mem}{t:Nat}{w:j3}(h:x ls env=.iface t w):tK x cf ls env m=some [⟨.mZ (.iface t w),m⟩]:=by show Ui (x ls env) m=_;rw [h];rfl
def panics:j3:=.mZ (.iface 58 (.agg []))
theorem AQ {S:Nat->Prop}{p:Nat}{M:Mem}{toks:List Tok}(h:RD S p M toks)(b:UInt8)(s:By)(n fu:Nat):
  ∃M',o9 KW fu (n+4) (.func 59) [.ptr p 0,.str (b::s)] M=some [⟨if V3 (b::s) toks then .tuple [] else panics,M'⟩]∧bg p M M'∧RD (λi=>S i∨M.nx<=i) p M' (iR (b::s) toks):=by
 obtain⟨M',g,h1,h2⟩:=kX h b s n fu;refine⟨M',?_,h1,h2⟩;have pe:=λx cf ls env m h=>amS (x:=x) (cf:=cf) (ls:=ls) (env:=env) (m:=m) (t:=58) (w:=.agg []) h;rw [enter (sf:=f59) rfl rfl];cases hp:V3 (b::s) toks<;>rw [hp] at g<;>simp [f59,g,panics,pe]
theorem Wd {m:Mem}{v:j3}{s:By}{cf:F4}{fu:Nat}(l:List By)(hl:l.length<=1000)(hv:gJ m v (strs l)):
  ∀(j i:Nat),i+j=l.length->∀(c3 c5 c6:j3) (N:Nat),j+1<=N->
  (s∉l.drop i∧∃c3' c5' c6',I4 (λenv m k=>qw cf fu none env m k) N (YJ v (iV (i:Int)) (iV (l.length:Int)) c3 (.str s) c5 c6 (iV 0)) m []=some [⟨.exit 0,(YJ v (iV (l.length:Int)) (iV (l.length:Int)) c3' (.str s) c5' c6' (iV 0)),m,[],none⟩])∨
  (s∈l.drop i∧∃(x1 x3 x5 x6:j3) (j:Nat),I4 (λenv m k=>qw cf fu none env m k) N (YJ v (iV (i:Int)) (iV (l.length:Int)) c3 (.str s) c5 c6 (iV 0)) m []=some [⟨.ret,(YJ v x1 (iV (l.length:Int)) x3 (.str s) x5 x6 (iV (j:Int))),m,[],none⟩]):=by
 intro j;induction j with
 | zero=>
  intro i hi c3 c5 c6 N hN;obtain⟨N,rfl⟩:∃k,N=k+1:=⟨N-1,by omega⟩;obtain rfl:i=l.length:=by omega
  refine .inl ⟨by simp,.bool false,c5,c6,?_⟩;rw [w9];simp [qw]
 | succ j ih=>
  intro i hi c3 c5 c6 N hN;obtain⟨N,rfl⟩:∃k,N=k+1:=⟨N-1,by omega⟩;have hlt:i<l.length:=by omega
  have hltI:(i:Int)<(l.length:Int):=by omega
  obtain⟨id,off,g1,g2,g3⟩:=hv.at (i:=i) (by rw [eH];omega);have e3:(strs l)[i]'(by rw [eH];exact hlt)=.str l[i]:=aip ..;rw [e3] at g3;have g1':jV v none (λid off len _=>idx len (iV (i:Int)) λk=>some (j3.ptr id (off+k))) (λid off len _=>idx len (iV (i:Int)) λk=>some (j3.ptr id (off+k)))=some (.ptr id off):=by simpa using g1
  have hd:l.drop i=l[i]::l.drop (i+1):=Y6 hlt;rw [hd];by_cases hs:s=l[i];refine .inr ⟨by rw [hs];exact ad3,iV (i:Int),.bool true,iV (i:Int),.bool true,i,?_⟩;rw [w9];simp [qw,hlt,hltI,g1',g3,← hs,V8];have hss:=ih (i+1) (by omega) (.bool true) (iV (i:Int)) (.bool false) N (by omega);have step:I4 (λenv m k=>qw cf fu none env m k) (N+1) (YJ v (iV (i:Int)) (iV (l.length:Int)) c3 (.str s) c5 c6 (iV 0)) m []=I4 (λenv m k=>qw cf fu none env m k) N (YJ v (.int .i64 ((i+1:Nat):Int)) (iV (l.length:Int)) (.bool true) (.str s) (iV (i:Int)) (.bool false) (iV 0)) m []:=by rw [w9];simp [qw,hlt,hltI,g1',g3,hs,V8,Y9 (i:=i) (by omega)]
  rw [step];rcases hss with⟨a,b⟩ | ⟨a,b⟩;exact .inl ⟨λhm=>(Z7.1 hm).elim hs a,b⟩;exact .inr ⟨Z9 _ a,b⟩
theorem Zf {m:Mem}{v:j3}{s:By}(l:List By)(hl:l.length<=1000)(hv:gJ m v (strs l))(n fu:Nat)(hfu:2000<=fu):
  o9 KW fu (n+2) (.func 227) [v,.str s] m=some [⟨.bool (decide (s∈l)),m⟩]:=by
 have hlen:=hv.len;rw [eH] at hlen;have key:(s∉l∧o9 KW fu (n+1) (.func 292) [v,.str s] m=some [⟨iV (-1),m⟩])∨(s∈l∧∃j:Nat,o9 KW fu (n+1) (.func 292) [v,.str s] m=some [⟨iV (j:Int),m⟩]):=by rcases Wd (s:=s) (cf:=o9 KW fu n) (fu:=fu) l hl hv l.length 0 (by omega) .undef .undef .undef fu (by omega) with⟨a,c3',c5',c6',g⟩ | ⟨a,x1,x3,x5,x6,j,g⟩;have g':I4 (λenv m k=>qw (o9 KW fu n) fu none env m k) fu (YJ v (iV 0) (iV (l.length:Int)) .undef (.str s) .undef .undef (iV 0)) m []=_:=g;refine .inl ⟨by simpa using a,?_⟩;rw [enter (sf:=f292) rfl rfl];simp [f292,hlen,g'];have g':I4 (λenv m k=>qw (o9 KW fu n) fu none env m k) fu (YJ v (iV 0) (iV (l.length:Int)) .undef (.str s) .undef .undef (iV 0)) m []=_:=g;refine .inr ⟨by simpa using a,j,?_⟩;rw [enter (sf:=f292) rfl rfl];simp [f292,hlen,g']
 rw [enter (sf:=f227) rfl rfl];rcases key with⟨a,g⟩ | ⟨a,j,g⟩;simp [f227,g,a];have:(0:Int)<=(j:Int):=by omega
 simp [f227,g,a,this]
theorem bs8 (ls:List j3)(env:T j3)(nid:Nat):F8 1 8 [.str []] [(0,1,D8 (.str [108,101,116])),(1,1,D8 (.str [105,102])),(2,1,D8 (.str [101,108,115,101])),(3,1,D8 (.str [119,104,105,108,101])),(4,1,D8 (.str [112,114,105,110,116])),(5,1,D8 (.str [97,110,100])),(6,1,D8 (.str [111,114])),(7,1,D8 (.str [110,111,116]))] ls env nid=some (.slice nid 0 8 8,some (.cells 1 8 (T.ofList ((strs QV).map ([·]))))):=rfl
theorem Zg {m:Mem}(hm:m.Ok)(s:By)(n fu:Nat)(hfu:2000<=fu):∃m',o9 KW fu (n+3) (.func 177) [.str s] m=some [⟨.bool (KA s),m'⟩]∧Ext m m':=by
 have E:=y9 hm [.cells 1 8 (T.ofList ((strs QV).map ([·])))];have hv:gJ (ext m [.cells 1 8 (T.ofList ((strs QV).map ([·])))]) (.slice m.nx 0 8 8) (strs QV):=vD hm (strs QV);have g:=Zf (s:=s) QV (by decide) hv n fu hfu;have e:decide (s∈QV)=KA s:=by unfold KA;rw [ais]
 rw [e] at g;refine⟨_,?_,E⟩;rw [enter (sf:=f177) rfl rfl];simp [f177,p9,u7,bs8,g]
theorem Wh {S:Nat->Prop}{p:Nat}{M:Mem}{toks:List Tok}(h:RD S p M toks)(n fu:Nat)(hfu:2000<=fu):
  ∃M',o9 KW fu (n+4) (.func 99) [.ptr p 0] M=some [⟨.bool (bL toks),M'⟩]∧Ext M M':=by
 obtain⟨v,h1,h2⟩:=h.has;have hlen:=h2.slice.len;rw [show (H9 toks).length=toks.length from by simp [H9]] at hlen;cases toks with
 | nil=>refine⟨M,?_,Ext.refl h.ok⟩;rw [enter (sf:=f99) rfl rfl];simp [f99,h1,hlen,bL]
 | cons t ts=>
  obtain⟨k,x⟩:=t;obtain⟨id1,o1,a1,a2,a3,a4,a5⟩:=h2.slice.at (i:=0) (by simp [H9]);have b1:=a5 0 (by omega);have b2:=a5 1 (by omega);have a1':jV v none (λid off len _=>if 0<len then some (j3.ptr id off) else none) (λid off len _=>if 0<len then some (j3.ptr id off) else none)=some (.ptr id1 o1):=by simpa using a1
  have b1':ld1 (M.get id1) o1=some (iV (k:Int)):=b1;have b2':ld1 (M.get id1) (o1+1)=some (.str x):=b2;have hlt:(0:Int)<((ts.length:Int)+1):=by omega
  obtain⟨M',g,E⟩:=Zg h.ok x n fu hfu;by_cases hk:k=1;subst hk;refine⟨M',?_,E⟩;rw [enter (sf:=f99) rfl rfl];simp [f99,h1,hlen,hlt,a1',b1',b2',g,bL];have hk':¬ (k:Int)=1:=by omega
  refine⟨M,?_,Ext.refl h.ok⟩;rw [enter (sf:=f99) rfl rfl];simp [f99,h1,hlen,hlt,a1',b1',b2',bL,hk,hk']
theorem KC {S:Nat->Prop}{p:Nat}{M:Mem}{toks:List Tok}(h:RD S p M toks)(n fu:Nat)(hfu:2000<=fu):
  ∃M',o9 KW fu (n+5) (.func 100) [.ptr p 0] M=some [⟨if bL toks then .str (toks.headD (0,[])).2 else panics,M'⟩]∧bg p M M'∧(bL toks=true->RD (λi=>S i∨M.nx<=i) p M' (toks.drop 1)):=by
 obtain⟨M1,g,E⟩:=Wh h n fu hfu;have EB:bg p M M1:=⟨E.ok,E.nx,E.lim,λi hi _=>E.old i hi⟩;cases hp:bL toks with
 | false=>rw [hp] at g;refine⟨M1,?_,EB,λh=>by cases h⟩;rw [enter (sf:=f100) rfl rfl];simp [f100,g,panics]
 | true=>
  rw [hp] at g;cases toks with
  | nil=>cases hp
  | cons t ts=>
   have hr:=h.ext E;obtain⟨v,v',nb,h1,h2,h3,h4,h5,h6,h7,h8,h9⟩:=hr.drop;obtain⟨k,x⟩:=t;obtain⟨id1,o1,a1,a2,a3,a4,a5⟩:=h2.at (i:=0) (by simp [H9]);have b2:=a5 1 (by omega);have a1':jV v none (λid off len _=>if 0<len then some (j3.ptr id off) else none) (λid off len _=>if 0<len then some (j3.ptr id off) else none)=some (.ptr id1 o1):=by simpa using a1
   have b2':ld1 (M1.get id1) (o1+1)=some (.str x):=b2;have st:=sB h7;have h3':=λy a ls env hy ha=>h3 y a ls env hy ha;refine⟨_,?_,⟨h8.ok,Xl EB.nx h8.nx,h8.lim.trans EB.lim,λi hi hn=>(h8.old i (Xb hi EB.nx) hn).trans (EB.old i hi hn)⟩,λ_=>h9.wide (λi _ hi=>hi.imp id λh=>Xl E.nx h) λhp=>by rcases hp with hp | hp;exact h.np hp;have:=h.lt;omega⟩
   rw [enter (sf:=f100) rfl rfl];simp [f100,g,h1,a1',b2',h3',h4,h5,h6,st]
theorem Tv {m:Mem}(hm:m.Ok):∀n,Ext m (U5 n m)∧True:=by
 intro n;induction n generalizing m with
 | zero=>exact⟨Ext.refl hm,trivial⟩
 | succ n ih=>exact⟨((Ext.refl hm).new _).trans (ih (Mem.Ok.new hm _)).1,trivial⟩
theorem PI {b:Option O9}{off:Nat}{l:j3}(h:ld1 b off=some l){β:Type}(f:j3->Option β):Q9 b (λrs n rows=>ob (cell1 rs n rows off) f)=f l:=by
 have h:Q9 b (λrs n rows=>cell1 rs n rows off)=some l:=h;match b,h with
 | some (.cells rs n rows),h=>show ob (cell1 rs n rows off) f=_;have h:cell1 rs n rows off=some l:=h;rw [h];rfl
theorem PL {b:Option O9}{off k:Nat}{l:List j3}(h:Hy b off k=some (.agg l)){β:Type}(f:List j3->Option β):Q9 b (λrs n rows=>ob (eU rs n rows off k) f)=f l:=by
 have h:Q9 b (λrs n rows=>ob (eU rs n rows off k) λl=>some (j3.agg l))=some (.agg l):=h;match b,h with
 | some (.cells rs n rows),h=>
  show ob (eU rs n rows off k) f=_;have h:ob (eU rs n rows off k) (λl=>some (j3.agg l))=some (.agg l):=h;cases hc:eU rs n rows off k with
  | none=>rw [hc] at h;cases h
  | some x=>rw [hc] at h;cases h;rfl
theorem acJ {S:Nat->Prop}{p:Nat}{M:Mem}{toks:List Tok}(h:RD S p M toks)(lv:Int)(n fu:Nat):
  ∃M',o9 KW fu (n+1) (.func 97) [.ptr p 0,iV lv] M=some [⟨.int .i64 ((Tq lv toks).getD 0),M'⟩]∧bg p M M'∧RD (λi=>S i∨M.nx<=i) p M' (if (Tq lv toks).isSome then toks.drop 1 else toks):=by
 obtain⟨v,h1,h2⟩:=h.has;have D:=(Tv h.ok 2).1;have key:∀outs,bB [.ptr p 0,iV lv] M=some outs->o9 KW fu (n+1) (.func 97) [.ptr p 0,iV lv] M=some outs:=λouts he=>by rw [dI];have he':KW.eff 97 [.ptr p 0,iV lv] M=some outs:=he;simp only [he']
 have hlenO:=h2.slice.lenOf;rw [show (H9 toks).length=toks.length from by simp [H9]] at hlenO;have e0:bB [.ptr p 0,iV lv] M=Nat.rec (jV v (one (iV 0) (U5 2 M)) (λ_ _ _ _=>one (iV 0) (U5 2 M)) (λ_ _ _ _=>one (iV 0) (U5 2 M))) (λ_ _=>jV v none (λid o _ _=>bB.tok M id o v p 0 lv) (λid o _ _=>bB.tok M id o v p 0 lv)) toks.length:=by
  show Q9 (M.get p) (λrs n rows=>ob (cell1 rs n rows 0) λv=>ob (lenOf v) λlen=>_)=_;have hl1:ld1 (M.get p) 0=some v:=by rw [h1];simp
  rw [PI hl1,hlenO];rfl
 cases toks with
 | nil=>
  have e1:bB [.ptr p 0,iV lv] M=some [⟨iV 0,U5 2 M⟩]:=by rw [e0];show jV v (one (iV 0) (U5 2 M)) (λ_ _ _ _=>one (iV 0) (U5 2 M)) (λ_ _ _ _=>one (iV 0) (U5 2 M))=_;rcases h2.slice with⟨rfl,_⟩ | ⟨id,o,⟨c,rfl,_⟩ | rfl,_⟩<;>rfl
  exact⟨_,key _ e1,⟨D.ok,D.nx,D.lim,λi hi _=>D.old i hi⟩,(h.ext D).wide (λi _ hi=>.inl hi) λhp=>by rcases hp with hp | hp;exact h.np hp;have:=h.lt;omega⟩
 | cons t ts=>
  obtain⟨k,x⟩:=t;obtain⟨id1,o1,a1,a2,a3,a4,a5⟩:=h2.slice.at (i:=0) (by simp [H9]);have a4':=a4 0 2 (by omega) (by omega);simp only [aay,H9,aaZ,afG,eO,Y3,ae2,afI] at a4';have a1':jV v none (λid off len _=>if 0<len then some (j3.ptr id off) else none) (λid off len _=>if 0<len then some (j3.ptr id off) else none)=some (.ptr id1 o1):=by simpa using a1
  have e2:∀T:Nat->Nat->bX,jV v none (λid o _ _=>T id o) (λid o _ _=>T id o)=T id1 o1:=λT=>by
   rcases h2.slice with⟨rfl,h⟩ | ⟨id,o,⟨c,rfl,_⟩ | rfl,_⟩;cases h;simp only [qM] at a1' ⊢;split at a1'<;>cases a1'
   rfl;simp only [oh] at a1' ⊢;split at a1'<;>cases a1'
   rfl
  have e3:bB [.ptr p 0,iV lv] M=Option.rec (one (iV 0) (U5 2 M)) (λkd=>ob (L9 (U5 2 M).nx 2 v 1 none) λq=>storeAt (bM (U5 2 M) q.2) p 0 [q.1] λm'=>one (iV kd) m') (ou lv (k:Int) x):=by rw [e0];show jV v none (λid o _ _=>bB.tok M id o v p 0 lv) (λid o _ _=>bB.tok M id o v p 0 lv)=_;rw [e2];unfold bB.tok;rw [PL a4']
  show ∃M',o9 KW fu (n+1) (.func 97) [.ptr p 0,iV lv] M=some [⟨.int .i64 ((ou lv (k:Int) x).getD 0),M'⟩]∧bg p M M'∧RD (λi=>S i∨M.nx<=i) p M' (if (ou lv (k:Int) x).isSome then ((k,x)::ts).drop 1 else (k,x)::ts);cases ho:ou lv (k:Int) x with
  | none=>rw [ho] at e3;exact⟨_,key _ e3,⟨D.ok,D.nx,D.lim,λi hi _=>D.old i hi⟩,(h.ext D).wide (λi _ hi=>.inl hi) λhp=>by rcases hp with hp | hp;exact h.np hp;have:=h.lt;omega⟩
  | some kd=>
   rw [ho] at e3;obtain⟨w,v',nb,k1,k2,k3,k4,k5,k6,k7,k8,k9⟩:=(h.ext D).drop;have hw:w=v:=by have:=(D.old p h.lt).trans h1;rw [k1] at this;cases this;rfl
   subst hw;have k3':L9 (U5 2 M).nx 2 w 1 none=some (v',nb):=k3 (λ_ _=>w) (λ_ _=>.int .i64 1) [] .e rfl rfl;have e4:bB [.ptr p 0,iV lv] M=some [⟨iV kd,(bM (U5 2 M) nb).set p (j4 [v'])⟩]:=by rw [e3];show ob (L9 (U5 2 M).nx 2 w 1 none) (λq=>storeAt (bM (U5 2 M) q.2) p 0 [q.1] λm'=>one (iV kd) m')=_;rw [k3',P5,rY k7];simp [k4,k6,one]
   refine⟨_,key _ e4,⟨k8.ok,Xl D.nx k8.nx,k8.lim.trans D.lim,λi hi hn=>(k8.old i (Xb hi D.nx) hn).trans (D.old i hi)⟩,?_⟩;exact k9.wide (λi _ hi=>hi.imp id λh=>Xl D.nx h) λhp=>by rcases hp with hp | hp;exact h.np hp;have:=h.lt;omega
def zE:Ex:=.mk 0 0 [] []
def zS:dO:=.mk 0 [] [] [] []
section
variable (L:List Tok)
mutual
def dU:Nat->Nat->Nat->Ex×Nat×Bool
 | 0,_,i=>(zE,i,false)
 | f+1,lv,i=>
  if lv=2 then
   if V3 [110,111,116] (L.drop i) then (.mk 5 0 [] [(dU f 2 (i+1)).1],(dU f 2 (i+1)).2) else dU f 3 i
  else if lv=6 then
   if V3 [45] (L.drop i) then (.mk 4 0 [] [(dU f 6 (i+1)).1],(dU f 6 (i+1)).2) else yj f i
  else lW f lv (dU f (lv+1) i)
def lW:Nat->Nat->Ex×Nat×Bool->Ex×Nat×Bool
 | 0,_,x=>(x.1,x.2.1,false)
 | f+1,lv,x=>
  if x.2.2 then
   match Tq (lv:Int) (L.drop x.2.1) with
   | none=>x
   | some k=>if lv=3 then (.mk k 0 [] [x.1,(dU f (lv+1) (x.2.1+1)).1],(dU f (lv+1) (x.2.1+1)).2) else lW f lv (.mk k 0 [] [x.1,(dU f (lv+1) (x.2.1+1)).1],(dU f (lv+1) (x.2.1+1)).2)
  else x
def yj:Nat->Nat->Ex×Nat×Bool
 | 0,i=>(zE,i,false)
 | f+1,i=>
  if Tt (L.drop i) then (.mk 1 (oF (txt (L.drop i)):Nat) [] [],i+1,true)
  else if V3 [40] (L.drop i) then ((dU f 0 (i+1)).1,(dU f 0 (i+1)).2.1+1,(dU f 0 (i+1)).2.2&&V3 [41] (L.drop (dU f 0 (i+1)).2.1))
  else if bL (L.drop i) then
   if V3 [40] (L.drop (i+1)) then
    if V3 [41] (L.drop (i+2)) then (.mk 3 0 (txt (L.drop i)) [],i+3,true)
    else (.mk 3 0 (txt (L.drop i)) (kF f (i+2)).1,(kF f (i+2)).2.1+1,(kF f (i+2)).2.2&&V3 [41] (L.drop (kF f (i+2)).2.1))
   else (.mk 2 0 (txt (L.drop i)) [],i+1,true)
  else (zE,i,false)
def kF:Nat->Nat->List Ex×Nat×Bool
 | 0,i=>([],i,false)
 | f+1,i=>oK f ([(dU f 0 i).1],(dU f 0 i).2)
def oK:Nat->List Ex×Nat×Bool->List Ex×Nat×Bool
 | 0,x=>(x.1,x.2.1,false)
 | f+1,x=>if x.2.2&&V3 [44] (L.drop x.2.1) then oK f (x.1 ++ [(dU f 0 (x.2.1+1)).1],(dU f 0 (x.2.1+1)).2) else x
end
mutual
def ng:Nat->Nat->dO×Nat×Bool
 | 0,i=>(zS,i,false)
 | f+1,i=>
  if V3 [108,101,116] (L.drop i)&&(bL (L.drop (i+1))&&V3 [61] (L.drop (i+2))) then
   (.mk 1 (txt (L.drop (i+1))) [(dU L f 0 (i+3)).1] [] [],(dU L f 0 (i+3)).2.1+1,(dU L f 0 (i+3)).2.2&&V3 [59] (L.drop (dU L f 0 (i+3)).2.1))
  else if V3 [112,114,105,110,116] (L.drop i) then
   (.mk 5 [] (kF L f (i+1)).1 [] [],(kF L f (i+1)).2.1+1,(kF L f (i+1)).2.2&&V3 [59] (L.drop (kF L f (i+1)).2.1))
  else if V3 [119,104,105,108,101] (L.drop i) then
   (.mk 4 [] [(dU L f 0 (i+1)).1] (jm f (dU L f 0 (i+1)).2.1).1 [],(jm f (dU L f 0 (i+1)).2.1).2.1,(dU L f 0 (i+1)).2.2&&(jm f (dU L f 0 (i+1)).2.1).2.2)
  else if V3 [105,102] (L.drop i) then
   if ((dU L f 0 (i+1)).2.2&&(jm f (dU L f 0 (i+1)).2.1).2.2)&&V3 [101,108,115,101] (L.drop (jm f (dU L f 0 (i+1)).2.1).2.1) then
    (.mk 3 [] [(dU L f 0 (i+1)).1] (jm f (dU L f 0 (i+1)).2.1).1 (jm f ((jm f (dU L f 0 (i+1)).2.1).2.1+1)).1,(jm f ((jm f (dU L f 0 (i+1)).2.1).2.1+1)).2)
   else (.mk 3 [] [(dU L f 0 (i+1)).1] (jm f (dU L f 0 (i+1)).2.1).1 [],(jm f (dU L f 0 (i+1)).2.1).2.1,(dU L f 0 (i+1)).2.2&&(jm f (dU L f 0 (i+1)).2.1).2.2)
  else if bL (L.drop i)&&V3 [61] (L.drop (i+1)) then
   (.mk 2 (txt (L.drop i)) [(dU L f 0 (i+2)).1] [] [],(dU L f 0 (i+2)).2.1+1,(dU L f 0 (i+2)).2.2&&V3 [59] (L.drop (dU L f 0 (i+2)).2.1))
  else if bL (L.drop i)&&V3 [40] (L.drop (i+1)) then
   (.mk 6 [] [(yj L f i).1] [] [],(yj L f i).2.1+1,(yj L f i).2.2&&V3 [59] (L.drop (yj L f i).2.1))
  else (zS,i,false)
def jm:Nat->Nat->List dO×Nat×Bool
 | 0,i=>([],i,false)
 | f+1,i=>((oV f ([],i+1,V3 [123] (L.drop i))).1,(oV f ([],i+1,V3 [123] (L.drop i))).2.1+1,(oV f ([],i+1,V3 [123] (L.drop i))).2.2)
def oV:Nat->List dO×Nat×Bool->List dO×Nat×Bool
 | 0,x=>(x.1,x.2.1,false)
 | f+1,x=>if x.2.2 && !V3 [125] (L.drop x.2.1) then oV f (x.1 ++ [(ng f x.2.1).1],(ng f x.2.1).2) else x
end
def NI:Nat->List dO->Nat->Option (List dO)
 | 0,_,_=>none
 | f+1,acc,i=>if i<L.length then (if (ng L f i).2.2 then NI f (acc ++ [(ng L f i).1]) (ng L f i).2.1 else none) else some acc
def Rel {α:Type}(i:Nat)(p:Option (α×List Tok))(r:α×Nat×Bool):Prop:=match p with
 | none=>r.2.2=false
 | some (e,t)=>r.2.2=true∧r.1=e∧t=L.drop r.2.1∧i<=r.2.1∧r.2.1<=L.length
variable {L}
theorem Rel.none {α:Type}{i:Nat}{r:α×Nat×Bool}(h:Rel L i none r):r.2.2=false:=h
theorem N8 {s:By}{i:Nat}(h:V3 s (L.drop i)=true):i<L.length:=by have:=U1 h;simp at this;omega
theorem qU {i:Nat}(h:bL (L.drop i)=true):i<L.length:=by have:=nH h;simp at this;omega
theorem Fq {lv k:Int}{i:Nat}(h:Tq lv (L.drop i)=some k):i<L.length:=by have:=CR h;simp at this;omega
theorem Fu {i:Nat}(h:Tt (L.drop i)=true):i<L.length:=by have:=Fp h;simp at this;omega
theorem eqE (f:Nat):(∀lv i,i<=L.length->Rel L i (bZ f lv (L.drop i)) (dU L f lv i))∧(∀lv x i j,j<=i->i<=L.length->Rel L j (mH f lv x (L.drop i)) (lW L f lv (x,i,true)))∧(∀i,i<=L.length->Rel L i (vG f (L.drop i)) (yj L f i))∧
  (∀i,i<=L.length->Rel L i (kE f (L.drop i)) (kF L f i))∧(∀l i j,j<=i->i<=L.length->Rel L j (mJ f l (L.drop i)) (oK L f (l,i,true))):=by
 induction f with
 | zero=>exact⟨λ_ _ _=>by simp [bZ,dU,Rel],λ_ _ _ _ _ _=>by simp [mH,lW,Rel],λ_ _=>by simp [vG,yj,Rel],λ_ _=>by simp [kE,kF,Rel],λ_ _ _ _ _=>by simp [mJ,oK,Rel]⟩
 | succ f ih=>
  obtain⟨i1,i2,i3,i4,i5⟩:=ih;have lf:∀lv (x:Ex×Nat×Bool),x.2.2=false->(lW L f lv x).2.2=false:=λlv x h=>by cases f<;>simp [lW,h]
  have mf:∀(x:List Ex×Nat×Bool),x.2.2=false->(oK L f x).2.2=false:=λx h=>by cases f<;>simp [oK,h]
  refine⟨λlv i hi=>?_,λlv x i j hj hi=>?_,λi hi=>?_,λi hi=>?_,λl i j hj hi=>?_⟩;rw [bZ,dU];split;split;rename_i ha;have h1:=i1 2 (i+1) (N8 ha);rw [Z6];cases hp:bZ f 2 (L.drop (i+1)) with
  | none=>rw [hp] at h1;exact h1
  | some q=>rw [hp] at h1;obtain⟨x,t⟩:=q;obtain⟨a,b,c,d,e⟩:=h1;exact⟨a,by rw [b],c,by simp only;omega,e⟩
  exact i1 3 i hi;split;split;rename_i ha;have h1:=i1 6 (i+1) (N8 ha);rw [Z6];cases hp:bZ f 6 (L.drop (i+1)) with
  | none=>rw [hp] at h1;exact h1
  | some q=>rw [hp] at h1;obtain⟨x,t⟩:=q;obtain⟨a,b,c,d,e⟩:=h1;exact⟨a,by rw [b],c,by simp only;omega,e⟩
  exact i3 i hi;have h1:=i1 (lv+1) i hi;cases hp:bZ f (lv+1) (L.drop i) with
  | none=>rw [hp] at h1;exact lf _ _ h1
  | some q=>
   rw [hp] at h1;obtain⟨x,t⟩:=q;obtain⟨a,b,c,d,e⟩:=h1;have hx:dU L f (lv+1) i=(x,(dU L f (lv+1) i).2.1,true):=by rw [← a,← b]
   rw [hx];show Rel L i (mH f lv x t) _;rw [c];exact i2 lv x _ i d e
  rw [mH,lW];simp only [if_true];cases ho:Tq (lv:Int) (L.drop i) with
  | none=>exact⟨rfl,rfl,rfl,hj,hi⟩
  | some k=>
   simp only;have h1:=i1 (lv+1) (i+1) (Fq ho);rw [Z6];cases hp:bZ f (lv+1) (L.drop (i+1)) with
   | none=>rw [hp] at h1;by_cases h3:lv=3;simp only [if_pos h3];exact h1;simp only [if_neg h3];exact lf _ _ h1
   | some q=>rw [hp] at h1;obtain⟨y,t⟩:=q;obtain⟨a,b,c,d,e⟩:=h1;by_cases h3:lv=3;simp only [if_pos h3];exact⟨a,by rw [b],c,by simp only;omega,e⟩;simp only [if_neg h3];have hx:(dU L f (lv+1) (i+1)).2=((dU L f (lv+1) (i+1)).2.1,true):=(by rw [← a]);rw [hx,b,c];exact i2 lv _ _ j (by omega) e
  rw [vG,yj];split;rename_i ha;exact⟨rfl,rfl,by rw [Z6],by simp,Fu ha⟩;split;rename_i ha;have h1:=i1 0 (i+1) (N8 ha);rw [Z6];cases hp:bZ f 0 (L.drop (i+1)) with
  | none=>rw [hp] at h1;show (_ && _)=false;rw [h1.none];rfl
  | some q=>rw [hp] at h1;obtain⟨x,t⟩:=q;obtain⟨a,b,c,d,e⟩:=h1;simp only;rw [c];split;rename_i hb;refine⟨by show (_ && _)=true;rw [a,hb];rfl,b,by rw [Z6],by simp only;omega,N8 hb⟩;rename_i hb;show (_ && _)=false;rw [a];simpa using hb
  split;rename_i ha;have hl:=qU ha;rw [Z6];split;rename_i hb;have hl2:=N8 hb;rw [Z6];split;rename_i hc;exact⟨rfl,rfl,by rw [Z6],by simp only;omega,by have:=N8 hc;simp only;omega⟩;have h1:=i4 (i+2) (by omega);cases hp:kE f (L.drop (i+2)) with
  | none=>rw [hp] at h1;show (_ && _)=false;rw [h1.none];rfl
  | some q=>rw [hp] at h1;obtain⟨x,t⟩:=q;obtain⟨a,b,c,d,e⟩:=h1;simp only;rw [c];split;rename_i hb;refine⟨by show (_ && _)=true;rw [a,hb];rfl,by rw [b],by rw [Z6],by simp only;omega,N8 hb⟩;rename_i hb;show (_ && _)=false;rw [a];simpa using hb
  exact⟨rfl,rfl,rfl,by simp,hl⟩;rfl;rw [kE,kF];have h1:=i1 0 i hi;cases hp:bZ f 0 (L.drop i) with
  | none=>rw [hp] at h1;exact mf _ h1
  | some q=>
   rw [hp] at h1;obtain⟨x,t⟩:=q;obtain⟨a,b,c,d,e⟩:=h1;have hx:(dU L f 0 i).2=((dU L f 0 i).2.1,true):=by rw [← a]
   simp only;rw [hx,b,c];exact i5 _ _ i d e
  rw [mJ,oK];simp only [aax];split;rename_i ha;have h1:=i1 0 (i+1) (N8 ha);rw [Z6];cases hp:bZ f 0 (L.drop (i+1)) with
  | none=>rw [hp] at h1;exact mf _ h1
  | some q=>
   rw [hp] at h1;obtain⟨x,t⟩:=q;obtain⟨a,b,c,d,e⟩:=h1;have hx:(dU L f 0 (i+1)).2=((dU L f 0 (i+1)).2.1,true):=by rw [← a]
   simp only;rw [hx,b,c];exact i5 _ _ j (by omega) e
  exact⟨rfl,rfl,rfl,hj,hi⟩
end
theorem iT {s s':By}{t:List Tok}(h:V3 s t=true)(hn:s'≠s):V3 s' t=false:=by
 match t,h with
 | a::t,h=>have h1:a=(wC s,s):=of_decide_eq_true h;refine decide_eq_false λh2=>hn ?_;rw [h1] at h2;exact (congrArg Prod.snd h2).symm
theorem NJ {s:By}{t:List Tok}(h:V3 s t=true)(hr:KA s=true):bL t=false:=by
 match t,h with
 | a::t,h=>have h1:a=(wC s,s):=of_decide_eq_true h;subst h1;show (_ && !KA s)=false;rw [hr];simp
variable {L:List Tok}
def agz (L:List Tok)(i:Nat)(p:Option (List dO×List Tok))(r:List dO×Nat×Bool):Prop:=match p with
 | none=>r.2.2=false
 | some (e,t)=>r.2.2=true∧r.1=e∧t=L.drop (r.2.1+1)∧i<=r.2.1∧r.2.1<L.length
theorem semi {f:Nat}{i:Nat}{p:Option (dO×List Tok)}{x:dO}{a:Nat}{b:Bool}(h:Rel L i p (x,a,b)):
  Rel L i (match p with | none=>none | some (s,r)=>if V3 [59] r then some (s,r.drop 1) else none) (x,a+1,b&&V3 [59] (L.drop a)):=by
 cases p with
 | none=>have h:b=false:=h;show (b && _)=false;rw [h];rfl
 | some q=>
  obtain⟨s,r⟩:=q;obtain⟨h1,h2,h3,h4,h5⟩:=h;have h1:b=true:=h1;have h3:r=L.drop a:=h3;subst h1;subst h3;simp only;split;rename_i hb;exact⟨hb,h2,by rw [Z6],aic h4,N8 hb⟩;rename_i hb;have hb:V3 [59] (L.drop a)=false:=by simpa using hb
  exact hb
theorem agA {f k:Nat}{i:Nat}(hi:i<=L.length)(ho:bL (L.drop i)=true)(ha:V3 [61] (L.drop (i+1))=true):
  Rel L i (yh f k (L.drop i)) (.mk k (txt (L.drop i)) [(dU L f 0 (i+2)).1] [] [],(dU L f 0 (i+2)).2.1,(dU L f 0 (i+2)).2.2):=by
 unfold yh;rw [if_pos ho,Z6,if_pos ha,Z6];have h1:=(eqE (L:=L) f).1 0 (i+2) (by have:=N8 ha;omega);cases hp:bZ f 0 (L.drop (i+2)) with
 | none=>rw [hp] at h1;exact h1
 | some q=>rw [hp] at h1;obtain⟨x,t⟩:=q;obtain⟨a,b,c,d,e⟩:=h1;exact⟨a,by rw [b],c,by simp only;omega,e⟩
theorem eqS (f:Nat):(∀i,i<=L.length->Rel L i (sj f (L.drop i)) (ng L f i))∧(∀i,i<=L.length->Rel L i (qx f (L.drop i)) (jm L f i))∧(∀l i j,j<=i->i<=L.length->agz L j (wD f l (L.drop i)) (oV L f (l,i,true))):=by
 induction f with
 | zero=>exact⟨λ_ _=>by simp [sj,ng,Rel],λ_ _=>by simp [qx,jm,Rel],λ_ _ _ _ _=>by simp [wD,oV,agz]⟩
 | succ f ih=>
  obtain⟨i1,i2,i3⟩:=ih;obtain⟨e1,_,e3,e4,_⟩:=eqE (L:=L) f;have sf:∀(x:List dO×Nat×Bool),x.2.2=false->(oV L f x).2.2=false:=λx h=>by cases f<;>simp [oV,h]
  refine⟨λi hi=>?_,λi hi=>?_,λl i j hj hi=>?_⟩;rw [sj,ng];by_cases hif:V3 [105,102] (L.drop i)=true;have n1:=iT (s':=[108,101,116]) hif (by decide);have n2:=iT (s':=[112,114,105,110,116]) hif (by decide);have n3:=iT (s':=[119,104,105,108,101]) hif (by decide);have hl:=N8 hif;rw [if_pos hif,n1,n2,n3,if_pos hif,Z6];simp only [abS,J9,if_false];have h1:=e1 0 (i+1) hl;cases hp:bZ f 0 (L.drop (i+1)) with
  | none=>rw [hp] at h1;have h1:=h1.none;simp only [h1,abS,J9,if_false];rfl
  | some q=>
   rw [hp] at h1;obtain⟨x,t⟩:=q;obtain⟨a,b,c,d,e⟩:=h1;simp only;rw [a,b,c];have h2:=i2 _ e;simp only [aax];cases hq:qx f (L.drop (dU L f 0 (i+1)).2.1) with
   | none=>rw [hq] at h2;have h2:=h2.none;simp only [h2,abS,J9,if_false];rfl
   | some q2=>
    rw [hq] at h2;obtain⟨th,t2⟩:=q2;obtain⟨a2,b2,c2,d2,e2'⟩:=h2;simp only;rw [a2,b2,c2];simp only [aax];by_cases hel:V3 [101,108,115,101] (L.drop (jm L f (dU L f 0 (i+1)).2.1).2.1)=true;rw [if_pos hel,if_pos hel,Z6];have h3:=i2 _ (N8 hel);cases hr:qx f (L.drop ((jm L f (dU L f 0 (i+1)).2.1).2.1+1)) with
    | none=>rw [hr] at h3;exact h3
    | some q3=>rw [hr] at h3;obtain⟨el,t3⟩:=q3;obtain⟨a3,b3,c3,d3,e3'⟩:=h3;exact⟨a3,by rw [b3],c3,Xl (by omega) d3,e3'⟩
    rw [if_neg hel,if_neg hel];exact⟨rfl,rfl,rfl,by simp only;omega,e2'⟩
  rw [if_neg hif];by_cases hwh:V3 [119,104,105,108,101] (L.drop i)=true;have n1:=iT (s':=[108,101,116]) hwh (by decide);have n2:=iT (s':=[112,114,105,110,116]) hwh (by decide);have hl:=N8 hwh;rw [if_pos hwh,n1,n2,if_pos hwh,Z6];simp only [abS,J9,if_false];have h1:=e1 0 (i+1) hl;cases hp:bZ f 0 (L.drop (i+1)) with
  | none=>rw [hp] at h1;show (_ && _)=false;rw [h1.none];rfl
  | some q=>
   rw [hp] at h1;obtain⟨x,t⟩:=q;obtain⟨a,b,c,d,e⟩:=h1;simp only;rw [a,b,c];have h2:=i2 _ e;simp only [aax];cases hq:qx f (L.drop (dU L f 0 (i+1)).2.1) with
   | none=>rw [hq] at h2;exact h2
   | some q2=>rw [hq] at h2;obtain⟨th,t2⟩:=q2;obtain⟨a2,b2,c2,d2,e2'⟩:=h2;exact⟨a2,by rw [b2],c2,by simp only;omega,e2'⟩
  rw [if_neg hwh];by_cases hpr:V3 [112,114,105,110,116] (L.drop i)=true;have n1:=iT (s':=[108,101,116]) hpr (by decide);have hl:=N8 hpr;rw [n1,if_pos hpr];simp only [abS,J9,if_false];unfold Gp;rw [if_pos hpr,Z6];refine semi (f:=f) ?_;have h1:=e4 (i+1) hl;cases hp:kE f (L.drop (i+1)) with
  | none=>rw [hp] at h1;exact h1
  | some q=>rw [hp] at h1;obtain⟨x,t⟩:=q;obtain⟨a,b,c,d,e⟩:=h1;exact⟨a,by rw [b],c,by simp only;omega,e⟩
  have hpr':V3 [112,114,105,110,116] (L.drop i)=false:=by simpa using hpr
  rw [if_neg hpr,if_neg hif,if_neg hwh];unfold Gp;rw [if_neg hpr];by_cases hle:V3 [108,101,116] (L.drop i)=true;have nx:=NJ hle (by decide);have hl:=N8 hle;rw [if_pos hle,hle,nx,Z6];simp only [aax,abS,J9,if_false];by_cases hc:(bL (L.drop (i+1))&&V3 [61] (L.drop (i+2)))=true;rw [if_pos hc];obtain⟨c1,c2⟩:=(U9 _ _).mp hc;have:=agA (f:=f) (k:=1) (i:=i+1) hl c1 c2;refine semi (f:=f) ?_;cases hp:yh f 1 (L.drop (i+1)) with
  | none=>have h:=this;rw [show ((1:Nat):Int)=1 from rfl,hp] at h;exact h
  | some q=>have h:=this;rw [show ((1:Nat):Int)=1 from rfl,hp] at h;obtain⟨a,b,c,d,e⟩:=h;exact⟨a,b,c,Xl (aiB i) d,e⟩
  rw [if_neg hc];have hn:yh f 1 (L.drop (i+1))=none:=by unfold yh;split;rename_i c1;rw [Z6];split;rename_i c2;exact absurd (by rw [c1,c2];rfl) hc;rfl;rfl
  rw [hn];rfl;have hle':V3 [108,101,116] (L.drop i)=false:=by simpa using hle
  rw [if_neg hle,hle'];simp only [abS,J9,if_false];unfold sS;rw [Z6];by_cases hcl:(V3 [40] (L.drop (i+1))&&bL (L.drop i))=true;rw [if_pos hcl];obtain⟨c1,c2⟩:=(U9 _ _).mp hcl;have n61:=iT (s':=[61]) c1 (by decide);rw [c2,c1,n61];simp only [aax,aea,J9,if_false,if_true];refine semi (f:=f) ?_;have h1:=e3 i hi;cases hp:vG f (L.drop i) with
  | none=>rw [hp] at h1;exact h1
  | some q=>rw [hp] at h1;obtain⟨x,t⟩:=q;obtain⟨a,b,c,d,e⟩:=h1;exact⟨a,by rw [b],c,d,e⟩
  rw [if_neg hcl];by_cases hc:(bL (L.drop i)&&V3 [61] (L.drop (i+1)))=true;rw [if_pos hc];obtain⟨c1,c2⟩:=(U9 _ _).mp hc;exact semi (f:=f) (agA (f:=f) (k:=2) hi c1 c2);rw [if_neg hc,if_neg (by rw [Bool.and_comm];exact hcl)];have hn:yh f 2 (L.drop i)=none:=by unfold yh;split;rename_i c1;rw [Z6];split;rename_i c2;exact absurd (by rw [c1,c2];rfl) hc;rfl;rfl
  rw [hn];rfl;rw [qx,jm];split;rename_i ha;have h1:=i3 [] (i+1) (i+1) (J2 _) (N8 ha);rw [ha,Z6];cases hp:wD f [] (L.drop (i+1)) with
  | none=>rw [hp] at h1;exact h1
  | some q=>rw [hp] at h1;obtain⟨x,t⟩:=q;obtain⟨a,b,c,d,e⟩:=h1;exact⟨a,b,c,by simp only;omega,by simp only;omega⟩
  rename_i ha;have ha':V3 [123] (L.drop i)=false:=by simpa using ha
  rw [ha'];exact sf _ rfl;rw [wD,oV];simp only [aax];by_cases ha:V3 [125] (L.drop i)=true;rw [if_pos ha,ha];exact⟨rfl,rfl,by rw [Z6];rfl,hj,N8 ha⟩;have ha':V3 [125] (L.drop i)=false:=by simpa using ha
  rw [if_neg ha,ha'];simp only [ajb,if_true];have h1:=i1 i hi;cases hp:sj f (L.drop i) with
  | none=>rw [hp] at h1;exact sf _ h1
  | some q=>
   rw [hp] at h1;obtain⟨x,t⟩:=q;obtain⟨a,b,c,d,e⟩:=h1;have hx:(ng L f i).2=((ng L f i).2.1,true):=by rw [← a]
   simp only;rw [hx,b,c];exact i3 _ _ j (by omega) e
theorem Rn (f:Nat):∀acc i,i<=L.length->Ci f acc (L.drop i)=NI L f acc i:=by
 induction f with
 | zero=>intro acc i hi;simp [Ci,NI]
 | succ f ih=>
  intro acc i hi;rw [Ci,NI];by_cases hl:i<L.length;rw [if_neg (by intro h;have:=congrArg List.length h;simp at this;omega),if_pos hl];have h1:=(eqS (L:=L) f).1 i hi;cases hp:sj f (L.drop i) with
  | none=>rw [hp] at h1;rw [if_neg (by rw [h1.none];decide)]
  | some q=>rw [hp] at h1;obtain⟨x,t⟩:=q;obtain⟨a,b,c,d,e⟩:=h1;simp only;rw [if_pos a,b,c];exact ih _ _ e
  rw [if_pos (by rw [afw];omega),if_neg hl]
set_option maxHeartbeats 2000000
def QW (t:List Tok):Prop:=∀x∈t,x.1=2->Lib.atoiAll x.2=.ok (oF x.2:Nat)∧x.2.length<1000000
theorem QW.drop {t:List Tok}(h:QW t)(n:Nat):QW (t.drop n):=λx hx=>h x (aa0 hx)
def agB (S:Nat->Prop)(p:Nat)(M:Mem)(r:Option (Ex×List Tok))(o:bX):Prop:=match r with
 | none=>∃M',o=some [⟨panics,M'⟩]∧bg p M M'
 | some (e,t)=>∃row M',o=some [⟨.agg row,M'⟩]∧bg p M M'∧Q6 M' (λi=>M.nx<=i) e row∧RD (λi=>S i∨M.nx<=i) p M' t
def agC (S:Nat->Prop)(p:Nat)(M:Mem)(r:Option (List Ex×List Tok))(o:bX):Prop:=match r with
 | none=>∃M',o=some [⟨panics,M'⟩]∧bg p M M'
 | some (l,t)=>∃v M',o=some [⟨v,M'⟩]∧bg p M M'∧pX M' (λi=>M.nx<=i) l v∧RD (λi=>S i∨M.nx<=i) p M' t
def CE (f:Nat):Prop:=∀(lv n fu p:Nat) (t:List Tok) (S:Nat->Prop) (M:Mem),RD S p M t->QW t->t.length<=10000->lv<=6->10*t.length+9<=f+lv->f+20<=n->20000<=fu->
 agB S p M (bZ f lv t) (o9 KW fu n (.func 56) [.ptr p 0,iV (lv:Int)] M)
def CP (f:Nat):Prop:=∀(n fu p:Nat) (t:List Tok) (S:Nat->Prop) (M:Mem),RD S p M t->QW t->t.length<=10000->10*t.length+2<=f->f+20<=n->20000<=fu->
 agB S p M (vG f t) (o9 KW fu n (.func 96) [.ptr p 0] M)
def CA (f:Nat):Prop:=∀(n fu p:Nat) (t:List Tok) (S:Nat->Prop) (M:Mem),RD S p M t->QW t->t.length<=10000->10*t.length+10<=f->f+20<=n->20000<=fu->
 agC S p M (kE f t) (o9 KW fu n (.func 98) [.ptr p 0] M)
theorem RD.mono {S S':Nat->Prop}{p:Nat}{M M':Mem}{t:List Tok}(h:RD S p M t)(ok:M'.Ok)(hn:M.nx<=M'.nx)(hl:M'.lim=M.lim)(hp:M'.get p=M.get p)(ho:∀i,i<M.nx->S i->M'.get i=M.get i)(hS:∀i,i<M.nx->S i->S' i)(hnp:¬ S' p):RD S' p M' t:=by obtain⟨v,h1,h2⟩:=h.has;exact⟨ok,Xb h.lt hn,by rw [hl];exact h.lim,hnp,v,hp.trans h1,h2.mono hn ho hS⟩
theorem iK (z:List j3)(ps:List (Nat×Nat×OF))(ls:List j3)(env:T j3)(nid:Nat)(h:z.length=4):F8 4 1 z ps ls env nid=ob (lay ps ls env z) λcells=>if cells.length=4 then some (.slice nid 0 1 1,some (j4 cells)) else none:=gX 4 z ps ls env nid h
theorem wE {row:List j3}(h:row.length=4){x:OF}{ls:List j3}{env:T j3}(hx:x ls env=.agg row):lay [(0,4,x)] ls env (r4 0 0 [] nS)=some row:=by rw [JO];simp only [hx,Aw,h];simp [h]
theorem acK (f:Nat):(∀lv t x r,bZ f lv t=some (x,r)->∃n,r=t.drop n)∧(∀lv x t y r,mH f lv x t=some (y,r)->∃n,r=t.drop n)∧(∀t x r,vG f t=some (x,r)->∃n,r=t.drop n)∧
  (∀t x r,kE f t=some (x,r)->∃n,r=t.drop n)∧(∀l t x r,mJ f l t=some (x,r)->∃n,r=t.drop n):=by
 refine⟨λlv t x r h=>?_,λlv x t y r h=>?_,λt x r h=>?_,λt x r h=>?_,λl t x r h=>?_⟩;have:=(eqE (L:=t) f).1 lv 0 (by omega);rw [Y3,h] at this;exact⟨_,this.2.2.1⟩;have:=(eqE (L:=t) f).2.1 lv x 0 0 (by omega) (by omega);rw [Y3,h] at this;exact⟨_,this.2.2.1⟩;have:=(eqE (L:=t) f).2.2.1 0 (by omega);rw [Y3,h] at this;exact⟨_,this.2.2.1⟩;have:=(eqE (L:=t) f).2.2.2.1 0 (by omega);rw [Y3,h] at this;exact⟨_,this.2.2.1⟩;have:=(eqE (L:=t) f).2.2.2.2 l 0 0 (by omega) (by omega);rw [Y3,h] at this;exact⟨_,this.2.2.1⟩
theorem oL (f lv:Nat)(t:List Tok)(x:Ex)(r:List Tok)(h:bZ f lv t=some (x,r))(y:Tok)(hy:y∈r):y∈t:=by obtain⟨n,rfl⟩:=(acK f).1 lv t x r h;exact aa0 hy
structure Acc (lo:Nat)(S T:Nat->Prop)(M:Mem)(v:j3)(l:List Ex):Prop where
 own:∃rows,aM lo 4 M v rows∧H8 M T l rows
 apartT:∀i o n e,v=.sliceU i o n e->¬ T i
 apartS:∀i o n e,v=.sliceU i o n e->¬ S i
 FH:∀i,T i->lo<=i
theorem Zh {f n fu p lo:Nat}(hE:∀k,k<=f->CE k)(hn:f+20<=n)(hfu:20000<=fu)(hpl:p<lo):∀(k:Nat),k<=f+1->∀(t:List Tok) (acc:List Ex) (v c1:j3) (S T:Nat->Prop) (M:Mem) (N:Nat),RD S p M t->QW t->t.length<=10000->acc.length+t.length<=10010->10*t.length+1<=k->
  Acc lo S T M v acc->lo<=M.nx->M.lim<=lo->t.length+1<=N->
  match mJ k acc t with
  | none=>∃c1' v' M',I4 (λenv m k=>BL (o9 KW fu n) fu none env m k) N (Tf (.ptr p 0) c1 v nS) M []=some [⟨.ret,(Tf (.ptr p 0) c1' v' nS),M',[],some (.iface 58 (.agg []))⟩]∧Fr lo p M M'
  | some (l,r)=>∃c1' v' M' T',I4 (λenv m k=>BL (o9 KW fu n) fu none env m k) N (Tf (.ptr p 0) c1 v nS) M []=some [⟨.exit 0,(Tf (.ptr p 0) c1' v' nS),M',[],none⟩]∧Fr lo p M M'∧Acc lo (λi=>False) T' M' v' l∧RD (λi=>S i∨M.nx<=i) p M' r:=by
 intro k;induction k with
 | zero=>intro hk t acc v c1 S T M N hR hW ht hac hm;omega
 | succ k ih=>
  intro hk t acc v c1 S T M N hR hW ht hac hm hA hlo hlim hN;obtain⟨N,rfl⟩:∃k,N=k+1:=⟨N-1,by omega⟩;obtain⟨n',rfl⟩:∃k,n=k+3:=⟨n-3,by omega⟩;obtain⟨M1,g1,X1,R1⟩:=kX hR 44 [] n' fu;rw [mJ];unfold iR at R1;obtain⟨rows,o1,o2⟩:=hA.own;have tp:∀i,T i->i≠p:=λi hi=>by have:=hA.FH i hi;omega
  have rowsM1:aM lo 4 M1 v rows:=o1.keep X1.nx λi h1 h2=>X1.old i h2 (by omega);have treeM1:H8 M1 T acc rows:=H8.mono X1.nx (λi hi ht=>X1.old i hi (tp i ht)) (λ_ _ h=>h) _ _ o2;cases hp:V3 [44] t with
  | false=>rw [hp] at g1 R1;simp only [J9,if_false] at R1 ⊢;refine⟨.bool false,v,M1,T,?_,X1.fr hlo,⟨⟨rows,rowsM1,treeM1⟩,hA.apartT,λ_ _ _ _ _ h=>h,hA.FH⟩,R1⟩;rw [w9];simp [BL,g1]
  | true=>
   have hl:=U1 hp;rw [hp] at g1 R1;simp only [if_true] at R1 ⊢;have hx:=hE k (by omega) 0 (n'+3) fu p (t.drop 1) _ M1 R1 (hW.drop 1) (by simp;omega) (by omega) (by simp;omega) (by omega) hfu;cases hq:bZ k 0 (t.drop 1) with
   | none=>rw [hq] at hx;obtain⟨M2,g2,X2⟩:=hx;simp only;refine⟨.bool true,v,M2,?_,(X1.trans X2).fr hlo⟩;have g2':o9 KW fu (n'+3) (.func 56) [.ptr p 0,iV 0] M1=_:=g2;rw [w9];simp [BL,g1,g2',panics]
   | some q=>
    obtain⟨y,r⟩:=q;rw [hq] at hx;obtain⟨row,M2,g2,X2,hr,R2⟩:=hx;simp only;have hr4:=hr.row;have E3:=y9 X2.ok [j4 row];have vlt:∀i o n e,v=.sliceU i o n e->lo<=i∧i<M.nx:=λi o n e hv=>o1.lt hv;have X12:=X1.trans X2;have rowsM3:aM lo 4 (ext M2 [j4 row]) v rows:=(rowsM1.keep X2.nx λi h1 h2=>X2.old i h2 (by omega)).ext E3;have hxr:V7 (ext M2 [j4 row]) 4 (.slice M2.nx 0 1 1) [row]:=by have:=oz X2.ok row (by omega);rw [hr4.1] at this;exact this
    have n3:(ext M2 [j4 row]).nx=M2.nx+1:=(by simp);have hrl:=H8.len o2;obtain⟨v5,M5,gb,ho5,F5,old5⟩:=rZ (lo:=lo) (rs:=4) (bytes:=56) (r:=row) E3.ok (by rw [E3.lim,X12.lim];exact hlim) (by have:=X12.nx;omega) (by omega) rowsM3 hxr hr4.1 hr4.2 (by rw [hrl];omega) ⟨by omega,by omega⟩;have po:=Ch ho5.slice;have g5:∀i,i<M2.nx->(∀o n e,v≠.sliceU i o n e)->M5.get i=M2.get i:=λi hi hv=>(by rw [old5 i (by omega) hv,E3.old i hi]);have hM1:=X1.nx;have hM2:=X2.nx;have hacc:Acc lo (λi=>(S i∨M.nx<=i)∧i<M2.nx+1) (λi=>(T i∨M1.nx<=i)∧i<M2.nx+1) M5 v5 (acc ++ [y]):=by
     refine⟨⟨rows ++ [row],ho5.down (by omega),H8.snoc ?_ ?_⟩,λi o n e hv h=>?_,λi o n e hv h=>?_,λi h=>?_⟩;refine H8.mono (by have:=F5.nx;omega) (λi hi ht=>?_) (λi hi ht=>⟨.inl ht,by omega⟩) _ _ treeM1;rw [g5 i (by omega) (λo n e hv=>hA.apartT i o n e hv ht),X2.old i hi (tp i ht)];refine Q6.mono (by have:=F5.nx;omega) (λi hi ht=>?_) (λi hi ht=>⟨.inr ht,by omega⟩) _ _ hr;exact g5 i hi λo n e hv=>by have:=(vlt i o n e hv).2;omega
     have:=(ho5.lt hv).1;rw [n3] at this;omega;have:=(ho5.lt hv).1;rw [n3] at this;omega;rcases h.1 with h | h;exact hA.FH i h;omega
    have hnp:¬ ((S p∨M.nx<=p)∧p<M2.nx+1):=λh=>by rcases h.1 with h | h;exact hR.np h;omega
    have R5:RD (λi=>(S i∨M.nx<=i)∧i<M2.nx+1) p M5 r:=by refine R2.mono F5.ok (by have:=F5.nx;omega) (F5.lim.trans E3.lim) (g5 p R2.lt λo n e hv=>by have:=(vlt p o n e hv).1;omega) (λi hi hs=>g5 i hi λo n e hv=>?_) (λi hi hs=>⟨?_,by omega⟩) hnp;have:=vlt i o n e hv;rcases hs with hs | hs;rcases hs with hs | hs;exact hA.apartS i o n e hv hs;omega;omega;rcases hs with hs | hs;exact hs;exact .inr (by omega)
    have hrl2:=(oJ k).1 _ _ _ _ hq;simp at hrl2;have Fall:Fr lo p M M5:=((X12.fr hlo).trans (E3.fr (by omega))).trans (F5.mono (J2 _));have step:∀N,I4 (λenv m k=>BL (o9 KW fu (n'+3)) fu none env m k) (N+1) (Tf (.ptr p 0) c1 v nS) M []=I4 (λenv m k=>BL (o9 KW fu (n'+3)) fu none env m k) N (Tf (.ptr p 0) (.bool true) v5 nS) M5 []:=λN=>by have g2':o9 KW fu (n'+3) (.func 56) [.ptr p 0,iV 0] M1=_:=g2;have l4:=λx ls env hx=>wE hr4.1 (x:=x) (ls:=ls) (env:=env) hx;rw [w9];simp [BL,p9,g1,g2',iK,l4,hr4.1,gb,po]
    have hrec:=ih (by omega) r (acc ++ [y]) v5 (.bool true) _ _ M5 N R5 (λx hx=>?_) (by omega) (by simp;omega) (by omega) hacc (by have:=F5.nx;omega) (by rw [F5.lim,E3.lim,X12.lim];exact hlim) (by omega);rw [step];cases hm:mJ k (acc ++ [y]) r with
    | none=>rw [hm] at hrec;obtain⟨c1',v',M',g,F⟩:=hrec;exact⟨c1',v',M',g,Fall.trans F⟩
    | some q=>rw [hm] at hrec;obtain⟨c1',v',M',T',g,F,A,R⟩:=hrec;refine⟨c1',v',M',T',g,Fall.trans F,A,R.wide (λi hi hs=>?_) λhp=>by rcases hp with hp | hp;exact hR.np hp;omega⟩;rcases hs with hs | hs;exact hs.1;exact .inr (by have:=F5.nx;omega)
    exact hW x (oL k 0 _ _ _ hq x hx |> aa0)
theorem QX {m:Mem}{lo rs:Nat}{row:List j3}(hm:m.Ok)(hlo:lo<=m.nx)(hr:row.length=rs)(h1:O0 row=true)(hp:0<rs):aM lo rs (m.new (j4 row)) (.slice m.nx 0 1 1) [row]:=by
 have ha:=QC (m:=m) hm (rs:=rs) hp (l:=[row]) (by simpa using hr);have e:(O9.cells rs [row].length (T.ofList [row]))=j4 row:=by subst hr;show O9.cells _ 1 _=O9.cells (len' row) 1 _;rw [I9];rfl
 rw [e] at ha;exact .inr ⟨m.nx,hlo,by simp,by simpa using h1,ha,by simp,.inl rfl⟩
theorem Fr.toB {lo p:Nat}{a b c:Mem}(h:bg p a b)(k:Fr lo p b c)(hl:a.nx<=lo):bg p a c:=⟨k.ok,Xl h.nx k.nx,k.lim.trans h.lim,λi hi hn=>(k.old i (by omega) hn).trans (h.old i hi hn)⟩
theorem Zi {f:Nat}(hE:∀k,k<=f->CE k):CA (f+1):=by
 intro n fu p t S M hR hW ht hm hn hfu;obtain⟨n,rfl⟩:∃k,n=k+1:=⟨n-1,by omega⟩;have hx:=hE f (J2 _) 0 n fu p t S M hR hW ht (by omega) (by omega) (by omega) hfu;rw [kE];cases hq:bZ f 0 t with
 | none=>rw [hq] at hx;obtain⟨M1,g1,X1⟩:=hx;have g1':o9 KW fu n (.func 56) [.ptr p 0,iV 0] M=_:=g1;refine⟨M1,?_,X1⟩;rw [enter (sf:=f98) rfl rfl];simp [f98,g1',panics]
 | some q=>
  obtain⟨y,r⟩:=q;rw [hq] at hx;obtain⟨row,M1,g1,X1,hr,R1⟩:=hx;have g1':o9 KW fu n (.func 56) [.ptr p 0,iV 0] M=_:=g1;have hr4:=hr.row;have E2:=y9 X1.ok [j4 row];have n2:(ext M1 [j4 row]).nx=M1.nx+1:=by simp
  have hM1:=X1.nx;have hlt:=hR.lt;have ho:=QX X1.ok (lo:=M.nx) hM1 hr4.1 hr4.2 (by omega);have hacc:Acc M.nx (λi=>(S i∨M.nx<=i)) (λi=>M.nx<=i∧i<M1.nx) (ext M1 [j4 row]) (.slice M1.nx 0 1 1) [y]:=
   ⟨⟨[row],ho,row,[],rfl,Q6.mono E2.nx (λi hi _=>E2.old i hi) (λi hi h=>⟨h,hi⟩) _ _ hr,rfl⟩,λi o n e hv=>(by cases hv),λi o n e hv=>(by cases hv),λi h=>h.1⟩
  have R2:=R1.ext E2;have hrl:=(oJ f).1 _ _ _ _ hq;have hL:=Zh (f:=f) (n:=n) (fu:=fu) (p:=p) (lo:=M.nx) hE (by omega) hfu hlt f (by omega) r [y] (.slice M1.nx 0 1 1) .undef (_) _ (ext M1 [j4 row]) fu R2 (λx hx=>hW x (oL f 0 _ _ _ hq x hx)) (by omega) (by simp;omega) (by omega) hacc (by omega) (by rw [E2.lim,X1.lim];exact hR.iF) (by omega);have l4:=λx ls env hx=>wE hr4.1 (x:=x) (ls:=ls) (env:=env) hx;simp only;cases hp:mJ f [y] r with
  | none=>rw [hp] at hL;obtain⟨c1',v',M',g,F⟩:=hL;refine⟨M',?_,Fr.toB (X1.trans E2.toB) F (J2 _)⟩;rw [enter (sf:=f98) rfl rfl];simp [f98,p9,g1',iK,l4,hr4.1,g,panics]
  | some q=>
   obtain⟨l,r2⟩:=q;rw [hp] at hL;obtain⟨c1',v',M',T',g,F,⟨⟨rows,o1,o2⟩,_,_,a4⟩,R3⟩:=hL;have po:=Ch o1.slice;refine⟨v',M',?_,Fr.toB (X1.trans E2.toB) F (J2 _),⟨rows,o1.s,H8.mono (J2 _) (λ_ _ _=>rfl) (λi _ h=>a4 i h) _ _ o2⟩,R3.wide (λi _ hs=>?_) λhs=>by rcases hs with hs | hs;exact hR.np hs;omega⟩
   rw [enter (sf:=f98) rfl rfl];simp [f98,p9,g1',iK,l4,hr4.1,g,po];rcases hs with hs | hs;exact hs;exact .inr (by omega)
@[simp] theorem aeh:Go.AM.K5 nS=true:=_root_.id rfl
theorem fin {S S3:Nat->Prop}{p:Nat}{M M3:Mem}{t t':List Tok}(h:RD S p M t)(X:bg p M M3)(hq:M.nx<M3.nx)(R:RD S3 p M3 t')(hS:∀i,i<M3.nx->S3 i->(S i∧i<M.nx)∨M.nx<i)(b:O9):
  bg p M (M3.set M.nx b)∧RD (λi=>S i∨M.nx<=i) p (M3.set M.nx b) t':=by
 have hlt:=h.lt;refine⟨⟨Mem.Ok.set X.ok hq _,X.nx,X.lim,λi hi hn=>by rw [p8 X.ok _ hq (by omega)];exact X.old i hi hn⟩,?_⟩;refine R.mono (Mem.Ok.set X.ok hq _) (J2 _) rfl (p8 X.ok _ hq (by omega)) (λi hi hs=>p8 X.ok _ hq ?_) (λi hi hs=>?_) λhs=>?_;rcases hS i hi hs with hs | hs<;>omega
 rcases hS i hi hs with hs | hs;exact .inl hs.1;exact .inr (by omega);rcases hs with hs | hs;exact h.np hs;omega
theorem RD.fence {S:Nat->Prop}{p:Nat}{M:Mem}{t:List Tok}(h:RD S p M t):RD (λi=>S i∧i<M.nx) p M t:=h.wide (λ_ hi hs=>⟨hs,hi⟩) λhs=>h.np hs.1
theorem Zj {f:Nat}(hE:∀k,k<=f->CE k)(hC:∀k,k<=f->CA k):CP (f+1):=by
 intro n fu p t S M hR hW ht hm hn hfu;obtain⟨n,rfl⟩:∃k,n=k+6:=⟨n-6,by omega⟩;have hM:=hR.ok;have hlt:=hR.lt;have hlim:=hR.iF;have E1:=y9 hM [j4 (r4 0 0 [] nS)];have n1:(ext M [j4 (r4 0 0 [] nS)]).nx=M.nx+1:=by simp
 have hR1:=hR.fence.ext E1;have gq1:(ext M [j4 (r4 0 0 [] nS)]).get M.nx=some (j4 (r4 0 0 [] nS)):=by rw [z8 hM];rfl
 have look:∀(cf:F4),∃v,(ext M [j4 (r4 0 0 [] nS)]).get p=some (j4 [v])∧V7 (ext M [j4 (r4 0 0 [] nS)]) 2 v (H9 t):=λ_=>by obtain⟨v,h1,h2⟩:=hR1.has;exact⟨v,h1,h2.slice⟩
 obtain⟨v,h1,h2⟩:=look (o9 KW fu n);have hlen:=h2.len;rw [show (H9 t).length=t.length from by simp [H9]] at hlen;rw [vG];have stq:∀(M3:Mem),bg p (ext M [j4 (r4 0 0 [] nS)]) M3->M3.get M.nx=some (j4 (r4 0 0 [] nS))∧M.nx<M3.nx∧M3.lim<=M.nx∧bg p M M3:=λM3 X=>by have:=X.nx;exact⟨by rw [X.old _ (by omega) (by omega),gq1],by omega,by rw [X.lim,E1.lim];exact hlim,E1.toB.trans X⟩
 cases hnum:Tt t with
 | true=>
  match t,hnum,hW,h2,hlen,hR1 with
  | (k,x)::ts,hnum,hW,h2,hlen,hR1=>
   have hk:k=2:=of_decide_eq_true hnum;subst hk;obtain⟨id1,o1,a1,a2,a3,a4,a5⟩:=h2.at (i:=0) (by simp [H9]);have b1:ld1 ((ext M [j4 (r4 0 0 [] nS)]).get id1) o1=some (iV 2):=a5 0 (by omega);have b2:ld1 ((ext M [j4 (r4 0 0 [] nS)]).get id1) (o1+1)=some (.str x):=a5 1 (by omega);have a1':jV v none (λid off len _=>if 0<len then some (j3.ptr id off) else none) (λid off len _=>if 0<len then some (j3.ptr id off) else none)=some (.ptr id1 o1):=by simpa using a1
   have hlt0:(0:Int)<((ts.length:Int)+1):=by omega
   obtain⟨hat,hxl⟩:=hW (2,x) (by simp) rfl;obtain⟨w,e,M2,ga,E2,hw⟩:=QO x hxl (n+4) fu (ext M [j4 (r4 0 0 [] nS)]) E1.ok;have hwv:w=(oF x:Nat):=by rcases hw with⟨hw,_⟩ | ⟨hw,_⟩;rw [hat] at hw;cases hw;rfl;exact absurd hat (hw _)
   subst hwv;obtain⟨v2,v',nb,k1,k2,k3,k4,k5,k6,k7,k8,k9⟩:=(hR1.ext E2).drop;have st:=sB k7;have k3':=λy a ls env hy ha=>k3 y a ls env hy ha;obtain⟨q1,q2,q3,q4⟩:=stq _ (E2.toB.trans k8);have stz:=sB q3;have gs:∀B,(((bM M2 nb).set p (j4 [v'])).set M.nx B).get M.nx=some B:=λB=>y8 k9.ok _ q2 rfl;have F:=fin hR q4 q2 k9 (λi hi hs=>by have:=E2.nx;rcases hs with hs | hs;exact .inl hs;exact .inr (by omega)) (j4 (r4 1 (oF x:Nat) [] nS))
   refine⟨(r4 1 (oF x:Nat) [] nS),_,?_,F.1,⟨nS,[],rfl,.inl ⟨rfl,rfl⟩,rfl⟩,F.2⟩;rw [enter (sf:=f96) rfl rfl];simp [f96,p9,h1,hlen,hlt0,a1',b1,b2,ga,k1,k3',k4,k5,k6,st,stz,q1,gs]
 | false=>
  simp only [J9,if_false];obtain⟨M2,g2,X2,R2⟩:=kX hR1 40 [] (n+2) fu;have hX2:=X2.nx;have nl:t=[]∨∃(k:Nat) (x:By) (ts:List Tok),t=(k,x)::ts∧k≠2:=by
   match t,hnum with
   | [],_=>exact .inl rfl
   | (k,x)::ts,h=>exact .inr ⟨k,x,ts,rfl,of_decide_eq_false h⟩
  have look0:∃id1 o1,(0<t.length->jV v none (λid off len _=>if 0<len then some (j3.ptr id off) else none) (λid off len _=>if 0<len then some (j3.ptr id off) else none)=some (.ptr id1 o1)∧∃k:Nat,ld1 ((ext M [j4 (r4 0 0 [] nS)]).get id1) o1=some (iV (k:Int))∧k≠2):=by rcases nl with rfl | ⟨k,x,ts,rfl,hk⟩;exact⟨0,0,λh=>by simp at h⟩;obtain⟨id1,o1,a1,a2,a3,a4,a5⟩:=h2.at (i:=0) (by simp [H9]);exact⟨id1,o1,λ_=>⟨by simpa using a1,k,a5 0 (by omega),hk⟩⟩
  obtain⟨id1,o1,lk⟩:=look0;have lenc:(0<t.length∧∃k:Nat,jV v none (λid off len _=>if 0<len then some (j3.ptr id off) else none) (λid off len _=>if 0<len then some (j3.ptr id off) else none)=some (.ptr id1 o1)∧ld1 ((ext M [j4 (r4 0 0 [] nS)]).get id1) o1=some (iV (k:Int))∧¬ (k:Int)=2∧(0:Int)<(t.length:Int))∨(¬ 0<t.length∧¬ (0:Int)<(t.length:Int)):=by by_cases h:0<t.length;obtain⟨l1,k,l2,l3⟩:=lk h;exact .inl ⟨h,k,l1,l2,by omega,by omega⟩;exact .inr ⟨h,by omega⟩
  unfold iR at R2;cases h40:V3 [40] t with
  | true=>
   have hl:=U1 h40;rw [h40] at g2 R2;simp only [if_true] at R2 ⊢;have hx:=hE f (J2 _) 0 (n+5) fu p (t.drop 1) _ M2 R2 (hW.drop 1) (by simp;omega) (by omega) (by simp;omega) (by omega) hfu;cases hq:bZ f 0 (t.drop 1) with
   | none=>rw [hq] at hx;obtain⟨M3,g3,X3⟩:=hx;have g3':o9 KW fu (n+5) (.func 56) [.ptr p 0,iV 0] M2=_:=g3;refine⟨M3,?_,E1.toB.trans (X2.trans X3)⟩;rw [enter (sf:=f96) rfl rfl];rcases lenc with⟨l0,k0,l1,l2,l3,l4⟩ | ⟨l0,l4⟩;simp [f96,p9,u7,h1,hlen,l0,l1,l2,l3,l4,g2,g3',panics];simp [f96,p9,u7,h1,hlen,l0,l4,g2,g3',panics]
   | some q=>
    obtain⟨y,r⟩:=q;rw [hq] at hx;obtain⟨row,M3,g3,X3,hr,R3⟩:=hx;have g3':o9 KW fu (n+5) (.func 56) [.ptr p 0,iV 0] M2=_:=g3;have hr4:=hr.row;have E4:=y9 X3.ok [j4 row];obtain⟨M5,g5,X5,R5⟩:=AQ (R3.ext E4) 41 [] (n+1) fu;have hX3:=X3.nx;have hX5:=X5.nx;have n4:(ext M3 [j4 row]).nx=M3.nx+1:=(by simp);unfold iR at R5;obtain⟨y1,y2,y3,y4,y5,y6⟩:=bG X3.ok (by have:=R3.iF;exact this);have st4:FD (some (j4 (r4 0 0 [] nS))) 0 row=some (j4 row):=by rw [jT (by simp [hr4.1]) (by simp)];simp [hr4.1]
    have ld4:Hy (some (j4 row)) 0 4=some (.agg row):=(by rw [jS (by omega) (by omega),Y3,aar (by omega)]);have XX:=X2.trans (X3.trans (E4.toB.trans X5));simp only;cases h41:V3 [41] r with
    | false=>rw [h41] at g5;refine⟨M5,?_,E1.toB.trans XX⟩;rw [enter (sf:=f96) rfl rfl];rcases lenc with⟨l0,k0,l1,l2,l3,l4⟩ | ⟨l0,l4⟩;simp [f96,p9,u7,h1,hlen,l0,l1,l2,l3,l4,g2,g3',g5,y1,y2,y3,y4,y5,y6,hr4.1,hr4.2,st4,panics];simp [f96,p9,u7,h1,hlen,l0,l4,g2,g3',g5,y1,y2,y3,y4,y5,y6,hr4.1,hr4.2,st4,panics]
    | true=>
     rw [h41] at g5 R5;simp only [if_true] at R5 ⊢;obtain⟨q1,q2,q3,q4⟩:=stq M5 XX;have stz:=sB q3;have gx:M5.get M3.nx=some (j4 row):=(by rw [X5.old _ (by omega) (by omega),z8 X3.ok];rfl);have gs:∀B,(M5.set M.nx B).get M.nx=some B:=λB=>y8 X5.ok _ q2 rfl;have F:=fin hR q4 q2 R5 (λi hi hs=>by
      rcases hs with hs | hs;rcases hs with hs | hs;rcases hs with hs | hs;exact .inl hs;exact .inr (by omega);exact .inr (by omega);exact .inr (by omega)) (j4 row)
     refine⟨row,_,?_,F.1,?_,F.2⟩;rw [enter (sf:=f96) rfl rfl];rcases lenc with⟨l0,k0,l1,l2,l3,l4⟩ | ⟨l0,l4⟩;simp [f96,p9,u7,h1,hlen,l0,l1,l2,l3,l4,g2,g3',g5,y1,y2,y3,y4,y5,y6,hr4.1,hr4.2,st4,ld4,gx,gs,stz,q1];simp [f96,p9,u7,h1,hlen,l0,l4,g2,g3',g5,y1,y2,y3,y4,y5,y6,hr4.1,hr4.2,st4,ld4,gx,gs,stz,q1];refine Q6.mono (by show M3.nx<=M5.nx;omega) (λi hi hs=>?_) (λi hi hs=>by omega) _ _ hr;rw [p8 X5.ok _ q2 (by omega),X5.old i (by omega) (by omega),E4.old i hi]
  | false=>
   rw [h40] at g2 R2;simp only [J9,if_false] at R2 ⊢;obtain⟨M3,g3,X3,R3⟩:=KC R2 n fu (by omega);have hX3:=X3.nx;cases hnx:bL t with
   | false=>rw [hnx] at g3;simp only [J9,if_false] at g3 ⊢;refine⟨M3,?_,E1.toB.trans (X2.trans X3)⟩;rw [enter (sf:=f96) rfl rfl];rcases lenc with⟨l0,k0,l1,l2,l3,l4⟩ | ⟨l0,l4⟩;simp [f96,p9,u7,h1,hlen,l0,l1,l2,l3,l4,g2,g3,panics];simp [f96,p9,u7,h1,hlen,l0,l4,g2,g3,panics]
   | true=>
    have R3:=R3 hnx;have hl:=nH hnx;rw [hnx] at g3;simp only [if_true] at g3 ⊢;have g3':o9 KW fu (n+5) (.func 100) [.ptr p 0] M2=some [⟨.str (txt t),M3⟩]:=g3;obtain⟨M4,g4,X4,R4⟩:=kX R3 40 [] (n+2) fu;have hX4:=X4.nx;unfold iR at R4;have sub4:∀i,(((S i∧i<M.nx)∨(ext M [j4 (r4 0 0 [] nS)]).nx<=i)∨M2.nx<=i)∨M3.nx<=i->(S i∧i<M.nx)∨M.nx<i:=λi hs=>by rcases hs with hs | hs;rcases hs with hs | hs;rcases hs with hs | hs;exact .inl hs;exact .inr (by omega);exact .inr (by omega);exact .inr (by omega)
    cases h42:V3 [40] (t.drop 1) with
    | false=>rw [h42] at g4 R4;simp only [J9,if_false] at R4 ⊢;have XX:=X2.trans (X3.trans X4);obtain⟨q1,q2,q3,q4⟩:=stq M4 XX;have stz:=sB q3;have gs:∀B,(M4.set M.nx B).get M.nx=some B:=λB=>y8 X4.ok _ q2 rfl;have F:=fin hR q4 q2 R4 (λi hi hs=>sub4 i hs) (j4 (r4 2 0 (txt t) nS));refine⟨(r4 2 0 (txt t) nS),_,?_,F.1,⟨nS,[],rfl,.inl ⟨rfl,rfl⟩,rfl⟩,F.2⟩;rw [enter (sf:=f96) rfl rfl];rcases lenc with⟨l0,k0,l1,l2,l3,l4⟩ | ⟨l0,l4⟩;simp [f96,p9,u7,h1,hlen,l0,l1,l2,l3,l4,g2,g3',g4,gs,stz,q1];simp [f96,p9,u7,h1,hlen,l0,l4,g2,g3',g4,gs,stz,q1]
    | true=>
     have hl2:=U1 h42;rw [abR] at hl2;rw [h42] at g4 R4;simp only [if_true,Z6,Nat.reduceAdd] at R4 ⊢;have E5:=y9 X4.ok [j4 (r4 3 0 (txt t) nS)];have n5:(ext M4 [j4 (r4 3 0 (txt t) nS)]).nx=M4.nx+1:=(by simp);obtain⟨M6,g6,X6,R6⟩:=kX (R4.fence.ext E5) 41 [] (n+2) fu;have hX6:=X6.nx;unfold iR at R6;obtain⟨y1,y2,y3,y4,y5,y6⟩:=bG X4.ok R4.iF;have gx:M6.get M4.nx=some (j4 (r4 3 0 (txt t) nS)):=(by rw [X6.old _ (by omega) (by omega),z8 X4.ok];rfl);cases h43:V3 [41] (t.drop 2) with
     | true=>
      rw [h43] at g6 R6;simp only [if_true,Z6,Nat.reduceAdd] at R6 ⊢;have XX:=X2.trans (X3.trans (X4.trans (E5.toB.trans X6)));obtain⟨q1,q2,q3,q4⟩:=stq M6 XX;have stz:=sB q3;have gs:∀B,(M6.set M.nx B).get M.nx=some B:=λB=>y8 X6.ok _ q2 rfl;have F:=fin hR q4 q2 R6 (λi hi hs=>by
       rcases hs with hs | hs;exact sub4 i hs.1;exact .inr (by omega)) (j4 (r4 3 0 (txt t) nS))
      refine⟨(r4 3 0 (txt t) nS),_,?_,F.1,⟨nS,[],rfl,.inl ⟨rfl,rfl⟩,rfl⟩,F.2⟩;rw [enter (sf:=f96) rfl rfl];rcases lenc with⟨l0,k0,l1,l2,l3,l4⟩ | ⟨l0,l4⟩;simp [f96,p9,u7,h1,hlen,l0,l1,l2,l3,l4,g2,g3',g4,g6,y1,y2,y3,y4,y5,y6,gx,gs,stz,q1];simp [f96,p9,u7,h1,hlen,l0,l4,g2,g3',g4,g6,y1,y2,y3,y4,y5,y6,gx,gs,stz,q1]
     | false=>
      rw [h43] at g6 R6;simp only [J9,if_false] at R6 ⊢;have hx:=hC f (J2 _) (n+5) fu p (t.drop 2) _ M6 R6 (hW.drop 2) (by simp;omega) (by simp;omega) (by omega) hfu;cases hq:kE f (t.drop 2) with
      | none=>rw [hq] at hx;obtain⟨M7,g7,X7⟩:=hx;refine⟨M7,?_,E1.toB.trans (X2.trans (X3.trans (X4.trans (E5.toB.trans (X6.trans X7)))))⟩;rw [enter (sf:=f96) rfl rfl];rcases lenc with⟨l0,k0,l1,l2,l3,l4⟩ | ⟨l0,l4⟩;simp [f96,p9,u7,h1,hlen,l0,l1,l2,l3,l4,g2,g3',g4,g6,g7,y1,y2,y3,y4,y5,y6,panics];simp [f96,p9,u7,h1,hlen,l0,l4,g2,g3',g4,g6,g7,y1,y2,y3,y4,y5,y6,panics]
      | some q=>
       obtain⟨l,r⟩:=q;rw [hq] at hx;obtain⟨v',M7,g7,X7,⟨rows,hv1,hv2⟩,R7⟩:=hx;have hX7:=X7.nx;have po:=Ch hv1.slice;have cv:=hv1.slice.cells;have ov:=hv1.slice.K5;have q7:M4.nx<M7.nx:=(by omega);have l7:M7.lim<=M4.nx:=(by rw [X7.lim,X6.lim,E5.lim];exact R4.iF);have gx7:M7.get M4.nx=some (j4 (r4 3 0 (txt t) nS)):=(X7.old _ (by omega) (by omega)).trans gx;have st7:=sB l7;have ok8:(M7.set M4.nx (j4 (r4 3 0 (txt t) v'))).Ok:=Mem.Ok.set X7.ok q7 _;have R8:RD (λi=>((((((S i∧i<M.nx)∨(ext M [j4 (r4 0 0 [] nS)]).nx<=i)∨M2.nx<=i)∨M3.nx<=i)∧i<M4.nx)∨(ext M4 [j4 (r4 3 0 (txt t) nS)]).nx<=i)∨M6.nx<=i) p (M7.set M4.nx (j4 (r4 3 0 (txt t) v'))) r:=
        R7.mono ok8 (J2 _) rfl (p8 X7.ok _ q7 (by omega)) (λi hi hs=>p8 X7.ok _ q7 (by rcases hs with (hs | hs) | hs<;>omega)) (λ_ _ h=>h) R7.np
       obtain⟨M9,g9,X9,R9⟩:=AQ R8 41 [] (n+1) fu;have hX9:M7.nx<=M9.nx:=X9.nx;unfold iR at R9;have X17:bg p (ext M [j4 (r4 0 0 [] nS)]) (M7.set M4.nx (j4 (r4 3 0 (txt t) v'))):=by have XX:=X2.trans (X3.trans (X4.trans (E5.toB.trans (X6.trans X7))));exact⟨ok8,XX.nx,XX.lim,λi hi hn=>by rw [p8 X7.ok _ q7 (by omega),XX.old i hi hn]⟩
       have XX:=X17.trans X9;simp only;cases h44:V3 [41] r with
       | false=>rw [h44] at g9;refine⟨M9,?_,E1.toB.trans XX⟩;rw [enter (sf:=f96) rfl rfl];rcases lenc with⟨l0,k0,l1,l2,l3,l4⟩ | ⟨l0,l4⟩;simp [f96,p9,u7,h1,hlen,l0,l1,l2,l3,l4,g2,g3',g4,g6,g7,g9,y1,y2,y3,y4,y5,y6,gx7,st7,po,cv,ov,panics];simp [f96,p9,u7,h1,hlen,l0,l4,g2,g3',g4,g6,g7,g9,y1,y2,y3,y4,y5,y6,gx7,st7,po,cv,ov,panics]
       | true=>
        rw [h44] at g9 R9;simp only [if_true] at R9 ⊢;obtain⟨q1,q2,q3,q4⟩:=stq M9 XX;have stz:=sB q3;have gs:∀B,(M9.set M.nx B).get M.nx=some B:=λB=>y8 X9.ok _ q2 rfl;have gx9:M9.get M4.nx=some (j4 (r4 3 0 (txt t) v')):=(by rw [X9.old _ q7 (by omega)];exact y8 X7.ok _ q7 rfl);have F:=fin hR q4 q2 R9 (λi hi hs=>by
         rcases hs with ((hs | hs) | hs) | hs;exact sub4 i hs.1;exact .inr (by omega);exact .inr (by omega);have:M7.nx<=i:=hs;exact .inr (by omega)) (j4 (r4 3 0 (txt t) v'))
        have keep:∀i,i<M7.nx->M6.nx<=i->(M9.set M.nx (j4 (r4 3 0 (txt t) v'))).get i=M7.get i:=λi hi hs=>(by rw [p8 X9.ok _ q2 (by omega),X9.old i hi (by omega),p8 X7.ok _ q7 (by omega)]);refine⟨(r4 3 0 (txt t) v'),_,?_,F.1,⟨v',rows,rfl,hv1.mono hX9 keep (λi _ hs=>by omega),H8.mono (m':=M9.set M.nx _) hX9 keep (λi _ hs=>by omega) _ _ hv2⟩,F.2⟩;rw [enter (sf:=f96) rfl rfl];rcases lenc with⟨l0,k0,l1,l2,l3,l4⟩ | ⟨l0,l4⟩;simp [f96,p9,u7,h1,hlen,l0,l1,l2,l3,l4,g2,g3',g4,g6,g7,g9,y1,y2,y3,y4,y5,y6,gx7,gx9,st7,po,cv,ov,gs,stz,q1];simp [f96,p9,u7,h1,hlen,l0,l4,g2,g3',g4,g6,g7,g9,y1,y2,y3,y4,y5,y6,gx7,gx9,st7,po,cv,ov,gs,stz,q1]
theorem Wi {a b:List j3}(ha:a.length=4)(hb:b.length=4){x y:OF}{ls:List j3}{env:T j3}{nid:Nat}(hx:x ls env=.agg a)(hy:y ls env=.agg b):
  F8 4 2 (r4 0 0 [] nS) [(0,4,x),(4,4,y)] ls env nid=some (.slice nid 0 2 2,some (.cells 4 2 (T.ofList [a,b]))):=by
 match a,ha,b,hb with
 | [a0,a1,a2,a3],_,[b0,b1,b2,b3],_=>
  have e:lay [(0,4,x),(4,4,y)] ls env (U0 (r4 0 0 [] nS) 2)=some [a0,a1,a2,a3,b0,b1,b2,b3]:=by show lay [(0,4,x),(4,4,y)] ls env [iV 0,iV 0,.str [],nS,iV 0,iV 0,.str [],nS]=_;rw [JO];simp only [hx,Aw];simp [hy]
  show ob (lay [(0,4,x),(4,4,y)] ls env (U0 (r4 0 0 [] nS) 2)) (λcells=>vJ 4 2 cells λb=>some (j3.slice nid 0 2 2,some b))=_;rw [e];rfl
theorem Tw {lv k:Int}{s:By}{kd:Int}(h:ou lv k s=some kd):kd≠0:=by
 have key:∀l:List (Int×Int×List UInt8×Int),(List.rec none (λe _ ih=>bi (aV e.1 lv) (bi (aV e.2.1 k) (bi (strEq e.2.2.1 s) (some e.2.2.2) ih) ih) ih) l:Option Int)=some kd->∃e∈l,e.2.2.2=kd:=by
  intro l;induction l with
  | nil=>intro h;cases h
  | cons e l ih=>
   intro h;have h:bi (aV e.1 lv) (bi (aV e.2.1 k) (bi (strEq e.2.2.1 s) (some e.2.2.2) _) _) _=some kd:=h;cases h1:aV e.1 lv with
   | false=>rw [h1,S9] at h;obtain⟨x,hx,hy⟩:=ih h;exact⟨x,by simp [hx],hy⟩
   | true=>
    rw [h1,P7] at h;cases h2:aV e.2.1 k with
    | false=>rw [h2,S9] at h;obtain⟨x,hx,hy⟩:=ih h;exact⟨x,by simp [hx],hy⟩
    | true=>
     rw [h2,P7] at h;cases h3:strEq e.2.2.1 s with
     | false=>rw [h3,S9] at h;obtain⟨x,hx,hy⟩:=ih h;exact⟨x,by simp [hx],hy⟩
     | true=>rw [h3,P7] at h;cases h;exact⟨e,by simp,rfl⟩
 obtain⟨e,he,rfl⟩:=key au h;exact (by decide:∀e∈au,e.2.2.2≠0) e he
theorem Wj {lv:Int}{t:List Tok}{kd:Int}(h:Tq lv t=some kd):kd≠0:=by
 cases t with
 | nil=>cases h
 | cons t ts=>exact Tw h
theorem Fv {M:Mem}{lo:Nat}{x:Ex}{row:List j3}(hm:M.Ok)(h:Q6 M (λi=>lo<=i) x row)(hlo:lo<=M.nx)(k:Int):Q6 (ext M [j4 row]) (λi=>lo<=i) (.mk k 0 [] [x]) (r4 k 0 [] (.slice M.nx 0 1 1)):=by
 have E:=y9 hm [j4 row];have hr:=h.row;refine⟨.slice M.nx 0 1 1,[row],rfl,.inr ⟨M.nx,0,hlo,.inl ⟨1,by simp,by simp⟩,by simp,.inr ⟨1,.nd .e row .e,?_,by simp,λr hr'=>by rw [J3.1 hr'];exact hr.1,λi hi=>?_⟩⟩,row,[],rfl,Q6.mono E.nx (λi hi _=>E.old i hi) (λ_ _ h=>h) _ _ h,rfl⟩;rw [z8 hm];show some (j4 row)=some (O9.cells 4 1 (.nd .e row .e));show some (O9.cells (len' row) 1 (.nd .e row .e))=_;rw [I9,hr.1];obtain rfl:i=0:=by simpa using hi
 rfl
theorem Wl {M:Mem}{S:Nat->Prop}{x y:Ex}{a b:List j3}(hm:M.Ok)(h1:Q6 M S x a)(h2:Q6 M S y b)(hlo:S M.nx)(k:Int):Q6 (ext M [.cells 4 2 (T.ofList [a,b])]) S (.mk k 0 [] [x,y]) (r4 k 0 [] (.slice M.nx 0 2 2)):=by have E:=y9 hm [.cells 4 2 (T.ofList [a,b])];refine⟨.slice M.nx 0 2 2,[a,b],rfl,.inr ⟨M.nx,0,hlo,.inl ⟨2,by simp,by simp⟩,by simp,.inr ⟨2,T.ofList [a,b],by rw [z8 hm];rfl,by simp,λr hr'=>?_,λi hi=>?_⟩⟩,a,[b],rfl,Q6.mono E.nx (λi hi _=>E.old i hi) (λ_ _ h=>h) _ _ h1,b,[],rfl,Q6.mono E.nx (λi hi _=>E.old i hi) (λ_ _ h=>h) _ _ h2,rfl⟩;simp only [Z7,afL,or_false] at hr';rcases hr' with rfl | rfl;exact h1.row.1;exact h2.row.1;rw [T.aG,aav,J7 hi]
@[simp] theorem acL (a b c d:Nat):Go.AM.K5 (.slice a b c d)=true:=_root_.id rfl
def Sx (S:Nat->Prop)(q q10:Nat):Nat->Prop:=λi=>(S i∧i<q)∨(q<i∧i≠q10)
theorem Zk {f n fu p lv q q10:Nat}{M0:Mem}{S:Nat->Prop}(hE:∀k,k<=f->CE k)(hlv:lv<=5)(hn:f+20<=n)(hfu:20000<=fu)(hp0:p<q)(hq:q=M0.nx)(hq10:q<q10)(hSp:¬ S p)(c1 c2 c4 c6 c7:j3):
  ∀(k:Nat),k<=f+1->∀(t:List Tok) (x:Ex) (row:List j3) (M:Mem) (N:Nat) (c8 c9 c11 c12:j3),RD (Sx S q q10) p M t->QW t->t.length<=10000->10*t.length+1<=k->bg p M0 M->q10<M.nx->M.lim<=q->M.get q=some (j4 (r4 0 0 [] nS))->M.get q10=some (j4 row)->Q6 M (λi=>q<i∧i≠q10) x row->t.length+1<=N->
  match mH k lv x t with
  | none=>∃c8' c9' c11' c12' M',I4 (λenv m k=>zF (o9 KW fu n) fu none env m k) N (Fg (iV (lv:Int)) c1 c2 (.ptr p 0) c4 (.ptr q 0) c6 c7 c8 c9 (.ptr q10 0) c11 c12) M []=some [⟨.ret,(Fg (iV (lv:Int)) c1 c2 (.ptr p 0) c4 (.ptr q 0) c6 c7 c8' c9' (.ptr q10 0) c11' c12'),M',[],some (.iface 58 (.agg []))⟩]∧bg p M0 M'
  | some (e,r)=>∃c8' c9' c11' c12' M' row',I4 (λenv m k=>zF (o9 KW fu n) fu none env m k) N (Fg (iV (lv:Int)) c1 c2 (.ptr p 0) c4 (.ptr q 0) c6 c7 c8 c9 (.ptr q10 0) c11 c12) M []=some [⟨.ret,(Fg (iV (lv:Int)) c1 c2 (.ptr p 0) c4 (.ptr q 0) c6 c7 c8' c9' (.ptr q10 0) c11' c12'),M',[],none⟩]∧bg p M0 M'∧M'.get q=some (j4 row')∧q<M'.nx∧Q6 M' (λi=>q<i∧i≠q10) e row'∧RD (Sx S q q10) p M' r:=by
 intro k;induction k with
 | zero=>intro hk t x row M N c8 c9 c11 c12 hR hW ht hm;omega
 | succ k ih=>
  intro hk t x row M N c8 c9 c11 c12 hR hW ht hm X hlt hl gq g10 hx hN;obtain⟨N,rfl⟩:∃k,N=k+1:=⟨N-1,by omega⟩;obtain⟨n,rfl⟩:∃k,n=k+1:=⟨n-1,by omega⟩;obtain⟨M1,g1,X1,R1⟩:=acJ hR (lv:Int) n fu;have hX1:=X1.nx;have hr4:=hx.row;have np:¬ Sx S q q10 p:=λh=>by rcases h with h | h;exact hSp h.1;omega
  have gq1:M1.get q=some (j4 (r4 0 0 [] nS)):=by rw [X1.old _ (by omega) (by omega),gq]
  have g101:M1.get q10=some (j4 row):=by rw [X1.old _ (by omega) (by omega),g10]
  have ld4:Hy (some (j4 row)) 0 4=some (.agg row):=by rw [jS (by omega) (by omega),Y3,aar (by omega)]
  have st4:∀r:List j3,r.length=4->∀r':List j3,r'.length=4->FD (some (j4 r')) 0 r=some (j4 r):=λr hr r' hr'=>by rw [jT (by omega) (by omega)];simp [hr,abT (show r'.length<=4 by omega)]
  rw [mH];have X01:=X.trans X1;cases ho:Tq (lv:Int) t with
  | none=>
   rw [ho] at g1 R1;simp only [Option.isSome_none,J9,if_false,Option.getD_none] at g1 R1 ⊢;have hl1:M1.lim<=q:=by rw [X1.lim];exact hl
   have stz:=sB hl1;have hq1:q<M1.nx:=by omega
   have ok2:(M1.set q (j4 row)).Ok:=Mem.Ok.set X1.ok hq1 _;have s4:=st4 row hr4.1 (r4 0 0 [] nS) rfl;refine⟨iV 0,.bool true,c11,c12,M1.set q (j4 row),row,?_,⟨ok2,X01.nx,X01.lim,λi hi hn=>by rw [p8 X1.ok _ hq1 (by omega),X01.old i hi hn]⟩,y8 X1.ok _ hq1 rfl,hq1,?_,?_⟩;rw [w9];simp [zF,g1,g101,gq1,ld4,stz,hr4.1,hr4.2,s4];refine Q6.mono (by show M.nx<=M1.nx;omega) (λi hi hs=>?_) (λ_ _ h=>h) _ _ hx;rw [p8 X1.ok _ hq1 (by omega),X1.old i hi (by omega)];refine R1.mono ok2 (J2 _) rfl (p8 X1.ok _ hq1 (by omega)) (λi hi hs=>p8 X1.ok _ hq1 ?_) (λi hi hs=>?_) np;rcases hs with (hs | hs) | hs<;>omega
   rcases hs with hs | hs;exact hs;exact .inr (by omega)
  | some kd=>
   have hne:=Wj ho;have hln:=CR ho;rw [ho] at g1 R1;simp only [Option.isSome_some,if_true,Option.getD_some] at g1 R1 ⊢;have hc:=hE k (by omega) (lv+1) (n+1) fu p (t.drop 1) _ M1 R1 (hW.drop 1) (by simp;omega) (by omega) (by simp;omega) (by omega) hfu;have wl:iU ((lv:Int)+1)=(lv:Int)+1:=L8 (by omega) (by omega);cases hq2:bZ k (lv+1) (t.drop 1) with
   | none=>rw [hq2] at hc;obtain⟨M2,g2,X2⟩:=hc;have g2':o9 KW fu (n+1) (.func 56) [.ptr p 0,.int .i64 ((lv:Int)+1)] M1=_:=g2;refine⟨iV kd,.bool false,c11,c12,M2,?_,X01.trans X2⟩;rw [w9];simp [zF,g1,hne,wl,g2',panics]
   | some z=>
    obtain⟨y,r⟩:=z;rw [hq2] at hc;obtain⟨rowy,M2,g2,X2,hy,R2⟩:=hc;have g2':o9 KW fu (n+1) (.func 56) [.ptr p 0,.int .i64 ((lv:Int)+1)] M1=_:=g2;have hy4:=hy.row;have hX2:=X2.nx;simp only;have E3:=y9 X2.ok [j4 rowy];have n3:(ext M2 [j4 rowy]).nx=M2.nx+1:=(by simp);have E4:=y9 E3.ok [.cells 4 2 (T.ofList [row,rowy])];have X04:=X01.trans (X2.trans (E3.toB.trans E4.toB));have tx:Q6 (ext M2 [j4 rowy]) (λi=>q<i∧i≠q10) x row:=Q6.mono (by omega) (λi hi hs=>by rw [E3.old i (by omega),X2.old i (by omega) (by omega),X1.old i hi (by omega)]) (λ_ _ h=>h) _ _ hx;have ty:Q6 (ext M2 [j4 rowy]) (λi=>q<i∧i≠q10) y rowy:=Q6.mono E3.nx (λi hi _=>E3.old i hi) (λi hi hs=>by omega) _ _ hy;have tn:=Wl E3.ok tx ty (by show q < _∧_≠q10;omega) kd;rw [u7,n3] at tn;rw [u7] at E4 X04;generalize hM4:ext M2 ([j4 rowy] ++ [.cells 4 2 (T.ofList [row,rowy])])=M4 at *;have n4:M4.nx=M2.nx+2:=(by rw [← hM4];simp);have old4:∀i,i<M2.nx->M4.get i=M2.get i:=λi hi=>(by rw [← hM4,U8 X2.ok _ hi]);have g104:M4.get q10=some (j4 row):=(by rw [old4 _ (by omega),X2.old _ (by omega) (by omega),g101]);have g103:(ext M2 [j4 rowy]).get q10=some (j4 row):=(by rw [U8 X2.ok _ (by omega),X2.old _ (by omega) (by omega),g101]);have gq4:M4.get q=some (j4 (r4 0 0 [] nS)):=(by rw [old4 _ (by omega),X2.old _ (by omega) (by omega),gq1]);have q4:q10<M4.nx:=(by omega);have l4:M4.lim<=q:=(by rw [E4.lim,E3.lim,X2.lim,X1.lim];exact hl);have l4':M4.lim<=q10:=(by omega);let nr:List j3:=(r4 kd 0 [] (.slice (M2.nx+1) 0 2 2))
    have ok5:(M4.set q10 (j4 nr)).Ok:=Mem.Ok.set E4.ok q4 _;have t5:Q6 (M4.set q10 (j4 nr)) (λi=>q<i∧i≠q10) (.mk kd 0 [] [x,y]) nr:=Q6.mono (m:=M4) (m':=M4.set q10 (j4 nr)) (J2 _) (λi hi hs=>p8 E4.ok _ q4 hs.2) (λ_ _ h=>h) _ _ tn;have R5:RD (Sx S q q10) p (M4.set q10 (j4 nr)) r:=by
     refine R2.mono ok5 (by show M2.nx<=M4.nx;omega) (by show M4.lim=_;rw [E4.lim,E3.lim]) ?_ (λi hi hs=>?_) (λi hi hs=>?_) np;rw [p8 E4.ok _ q4 (by omega),old4 _ R2.lt];rw [p8 E4.ok _ q4 ?_,old4 _ hi];rcases hs with ((hs | hs) | hs) | hs<;>omega
     rcases hs with (hs | hs) | hs;exact hs;exact .inr (by omega);exact .inr (by omega)
    have X05:bg p M0 (M4.set q10 (j4 nr)):=⟨ok5,X04.nx,X04.lim,λi hi hn=>by rw [p8 E4.ok _ q4 (by omega),X04.old i hi hn]⟩;have gq5:(M4.set q10 (j4 nr)).get q=some (j4 (r4 0 0 [] nS)):=(by rw [p8 E4.ok _ q4 (by omega),gq4]);have g105:(M4.set q10 (j4 nr)).get q10=some (j4 nr):=y8 E4.ok _ q4 rfl;have hrl:=(oJ k).1 _ _ _ _ hq2;simp at hrl;have b2:=λx y ls env nid hx hy=>Wi hr4.1 hy4.1 (x:=x) (y:=y) (ls:=ls) (env:=env) (nid:=nid) hx hy;have ldy:Hy (some (j4 rowy)) 0 4=some (.agg rowy):=by rw [jS (by omega) (by omega),Y3,aar (by omega)]
    have sy:=st4 rowy hy4.1 (r4 0 0 [] nS) rfl;have sn:=st4 nr rfl row hr4.1;have hM4':ext M2 [j4 rowy,.cells 4 2 (T.ofList [row,rowy])]=M4:=hM4;obtain⟨y1,y2,y3,y4,y5,y6⟩:=bG X2.ok R2.iF;have st5:=sB l4';by_cases h3:lv=3;subst h3;simp only [if_true];have q5:q<(M4.set q10 (j4 nr)).nx:=(by show q<M4.nx;omega);have l5:(M4.set q10 (j4 nr)).lim<=q:=l4;have stz:=sB l5;have ok6:((M4.set q10 (j4 nr)).set q (j4 nr)).Ok:=Mem.Ok.set ok5 q5 _;have sz:=st4 nr rfl (r4 0 0 [] nS) rfl;refine⟨iV kd,.bool false,.ptr M2.nx 0,.bool true,(M4.set q10 (j4 nr)).set q (j4 nr),nr,?_,⟨ok6,X05.nx,X05.lim,λi hi hn=>by rw [p8 ok5 _ q5 (by omega),X05.old i hi hn]⟩,y8 ok5 _ q5 rfl,q5,?_,?_⟩;have g2'':o9 KW fu (n+1) (.func 56) [.ptr p 0,iV 4] M1=_:=g2;have g1':o9 KW fu (n+1) (.func 97) [.ptr p 0,iV 3] M=some [⟨iV kd,M1⟩]:=g1;have wl':iU (3+1)=4:=L8 (by decide) (by decide);have wl2:iU 4=4:=L8 (by decide) (by decide);have ldn:Hy (some (j4 nr)) 0 4=some (.agg nr):=(by rw [jS (by simp [nr]) (by simp [nr])];rfl);rw [w9];simp [zF,p9,u7,g1',hne,wl',wl2,g2'',y1,y2,y3,y4,y5,y6,hr4.1,hr4.2,hy4.1,hy4.2,ld4,ldy,sy,b2,g103,hM4',g104,st5,sn,g105,gq5,stz,sz,nr];exact Q6.mono (m:=M4.set q10 (j4 nr)) (m':=(M4.set q10 (j4 nr)).set q (j4 nr)) (J2 _) (λi hi hs=>p8 ok5 _ q5 (by omega)) (λ_ _ h=>h) _ _ t5;exact R5.mono ok6 (J2 _) rfl (p8 ok5 _ q5 (by omega)) (λi hi hs=>p8 ok5 _ q5 (by rcases hs with hs | hs<;>omega)) (λ_ _ h=>h) np
    simp only [if_neg h3];have h3':¬ (lv:Int)=3:=(by omega);have hrec:=ih (by omega) r (.mk kd 0 [] [x,y]) nr (M4.set q10 (j4 nr)) N (iV kd) (.bool false) (.ptr M2.nx 0) (.bool false) R5 (λz hz=>hW z (aa0 (oL k (lv+1) _ _ _ hq2 z hz))) (by omega) (by omega) X05 (by show q10<M4.nx;omega) l4 gq5 g105 t5 (by omega);have step:∀N,I4 (λenv m k=>zF (o9 KW fu (n+1)) fu none env m k) (N+1) (Fg (iV (lv:Int)) c1 c2 (.ptr p 0) c4 (.ptr q 0) c6 c7 c8 c9 (.ptr q10 0) c11 c12) M []=I4 (λenv m k=>zF (o9 KW fu (n+1)) fu none env m k) N (Fg (iV (lv:Int)) c1 c2 (.ptr p 0) c4 (.ptr q 0) c6 c7 (iV kd) (.bool false) (.ptr q10 0) (.ptr M2.nx 0) (.bool false)) (M4.set q10 (j4 nr)) []:=λN=>by rw [w9];simp [zF,p9,u7,g1,hne,wl,h3',h3,g2',y1,y2,y3,y4,y5,y6,hr4.1,hr4.2,hy4.1,hy4.2,ld4,ldy,sy,b2,g103,hM4',g104,st5,sn,nr]
    rw [step];exact hrec
theorem Zl {f:Nat}(hE:∀k,k<=f->CE k)(hP:∀k,k<=f->CP k):CE (f+1):=by
 intro lv n fu p t S M hR hW ht hlv hm hn hfu;obtain⟨n,rfl⟩:∃k,n=k+4:=⟨n-4,by omega⟩;have hM:=hR.ok;have hlt:=hR.lt;have hlim:=hR.iF;have E1:=y9 hM [j4 (r4 0 0 [] nS)];have n1:(ext M [j4 (r4 0 0 [] nS)]).nx=M.nx+1:=by simp
 have hR1:=hR.fence.ext E1;have gq1:(ext M [j4 (r4 0 0 [] nS)]).get M.nx=some (j4 (r4 0 0 [] nS)):=by rw [z8 hM];rfl
 have stq:∀(M3:Mem),bg p (ext M [j4 (r4 0 0 [] nS)]) M3->M3.get M.nx=some (j4 (r4 0 0 [] nS))∧M.nx<M3.nx∧M3.lim<=M.nx∧bg p M M3:=λM3 X=>by have:=X.nx;exact⟨by rw [X.old _ (by omega) (by omega),gq1],by omega,by rw [X.lim,E1.lim];exact hlim,E1.toB.trans X⟩
 have sub2:∀M2:Mem,(ext M [j4 (r4 0 0 [] nS)]).nx<=M2.nx->∀i,((S i∧i<M.nx)∨(ext M [j4 (r4 0 0 [] nS)]).nx<=i)∨M2.nx<=i->(S i∧i<M.nx)∨M.nx<i:=λM2 h i hs=>by rcases hs with (hs | hs) | hs;exact .inl hs;exact .inr (by omega);exact .inr (by omega)
 have st4:∀r:List j3,r.length=4->FD (some (j4 (r4 0 0 [] nS))) 0 r=some (j4 r):=λr hr=>by rw [jT (by simp [hr]) (by simp)];simp [hr]
 have ld4:∀r:List j3,r.length=4->Hy (some (j4 r)) 0 4=some (.agg r):=λr hr=>by rw [jS (by omega) (by omega),Y3,aar (by omega)]
 rw [bZ];by_cases h2:lv=2;subst h2;rw [if_pos rfl];obtain⟨M2,g2,X2,R2⟩:=kX hR1 110 [111,116] n fu;have hX2:=X2.nx;unfold iR at R2;cases ha:V3 [110,111,116] t with
 | true=>
  have hl:=U1 ha;rw [ha] at g2 R2;simp only [if_true] at R2 ⊢;have hx:=hE f (J2 _) 2 (n+3) fu p (t.drop 1) _ M2 R2 (hW.drop 1) (by simp;omega) (by omega) (by simp;omega) (by omega) hfu;cases hq:bZ f 2 (t.drop 1) with
  | none=>rw [hq] at hx;obtain⟨M3,g3,X3⟩:=hx;have g3':o9 KW fu (n+3) (.func 56) [.ptr p 0,iV 2] M2=_:=g3;refine⟨M3,?_,E1.toB.trans (X2.trans X3)⟩;rw [enter (sf:=f56) rfl rfl];simp [f56,p9,g2,g3',panics]
  | some q=>
   obtain⟨y,r⟩:=q;rw [hq] at hx;obtain⟨row,M3,g3,X3,hr,R3⟩:=hx;have g3':o9 KW fu (n+3) (.func 56) [.ptr p 0,iV 2] M2=_:=g3;have hr4:=hr.row;have hX3:=X3.nx;have E4:=y9 X3.ok [j4 row];have n4:(ext M3 [j4 row]).nx=M3.nx+1:=by simp
   have tn:=Fv X3.ok hr hX3 5;have XX:=X2.trans (X3.trans E4.toB);obtain⟨q1,q2,q3,q4⟩:=stq _ XX;have stz:=sB q3;have gs:∀B,((ext M3 [j4 row]).set M.nx B).get M.nx=some B:=λB=>y8 E4.ok _ q2 rfl;have F:=fin hR q4 q2 (R3.ext E4) (λi hi hs=>sub2 M2 hX2 i hs) (j4 (r4 5 0 [] (.slice M3.nx 0 1 1)));have l4:=λx ls env hx=>wE hr4.1 (x:=x) (ls:=ls) (env:=env) hx;refine⟨(r4 5 0 [] (.slice M3.nx 0 1 1)),_,?_,F.1,?_,F.2⟩;rw [enter (sf:=f56) rfl rfl];simp [f56,p9,u7,g2,g3',iK,l4,hr4.1,stz,q1,gs];exact Q6.mono (m:=ext M3 [j4 row]) (m':=(ext M3 [j4 row]).set M.nx _) (J2 _) (λi hi hs=>p8 E4.ok _ q2 (by omega)) (λi _ hs=>by omega) _ _ tn
 | false=>
  rw [ha] at g2 R2;simp only [J9,if_false] at R2 ⊢;have hx:=hE f (J2 _) 3 (n+3) fu p t _ M2 R2 hW ht (by omega) (by omega) (by omega) hfu;cases hq:bZ f 3 t with
  | none=>rw [hq] at hx;obtain⟨M3,g3,X3⟩:=hx;have g3':o9 KW fu (n+3) (.func 56) [.ptr p 0,iV 3] M2=_:=g3;refine⟨M3,?_,E1.toB.trans (X2.trans X3)⟩;rw [enter (sf:=f56) rfl rfl];simp [f56,p9,g2,g3',panics]
  | some q=>obtain⟨y,r⟩:=q;rw [hq] at hx;obtain⟨row,M3,g3,X3,hr,R3⟩:=hx;have g3':o9 KW fu (n+3) (.func 56) [.ptr p 0,iV 3] M2=_:=g3;have hr4:=hr.row;have hX3:=X3.nx;have XX:=X2.trans X3;obtain⟨q1,q2,q3,q4⟩:=stq _ XX;have stz:=sB q3;have gs:∀B,(M3.set M.nx B).get M.nx=some B:=λB=>y8 X3.ok _ q2 rfl;have F:=fin hR q4 q2 R3 (λi hi hs=>sub2 M2 hX2 i hs) (j4 row);refine⟨row,_,?_,F.1,?_,F.2⟩;rw [enter (sf:=f56) rfl rfl];simp [f56,p9,u7,g2,g3',hr4.1,hr4.2,stz,q1,gs,st4 row hr4.1,ld4 row hr4.1];exact Q6.mono (m:=M3) (m':=M3.set M.nx _) (J2 _) (λi hi hs=>p8 X3.ok _ q2 (by omega)) (λi _ hs=>by omega) _ _ hr
 rw [if_neg h2];by_cases h6:lv=6;subst h6;rw [if_pos rfl];obtain⟨M2,g2,X2,R2⟩:=kX hR1 45 [] n fu;have hX2:=X2.nx;unfold iR at R2;cases ha:V3 [45] t with
 | true=>
  have hl:=U1 ha;rw [ha] at g2 R2;simp only [if_true] at R2 ⊢;have hx:=hE f (J2 _) 6 (n+3) fu p (t.drop 1) _ M2 R2 (hW.drop 1) (by simp;omega) (by omega) (by simp;omega) (by omega) hfu;cases hq:bZ f 6 (t.drop 1) with
  | none=>rw [hq] at hx;obtain⟨M3,g3,X3⟩:=hx;have g3':o9 KW fu (n+3) (.func 56) [.ptr p 0,iV 6] M2=_:=g3;refine⟨M3,?_,E1.toB.trans (X2.trans X3)⟩;rw [enter (sf:=f56) rfl rfl];simp [f56,p9,g2,g3',panics]
  | some q=>
   obtain⟨y,r⟩:=q;rw [hq] at hx;obtain⟨row,M3,g3,X3,hr,R3⟩:=hx;have g3':o9 KW fu (n+3) (.func 56) [.ptr p 0,iV 6] M2=_:=g3;have hr4:=hr.row;have hX3:=X3.nx;have E4:=y9 X3.ok [j4 row];have n4:(ext M3 [j4 row]).nx=M3.nx+1:=by simp
   have tn:=Fv X3.ok hr hX3 4;have XX:=X2.trans (X3.trans E4.toB);obtain⟨q1,q2,q3,q4⟩:=stq _ XX;have stz:=sB q3;have gs:∀B,((ext M3 [j4 row]).set M.nx B).get M.nx=some B:=λB=>y8 E4.ok _ q2 rfl;have F:=fin hR q4 q2 (R3.ext E4) (λi hi hs=>sub2 M2 hX2 i hs) (j4 (r4 4 0 [] (.slice M3.nx 0 1 1)));have l4:=λx ls env hx=>wE hr4.1 (x:=x) (ls:=ls) (env:=env) hx;refine⟨(r4 4 0 [] (.slice M3.nx 0 1 1)),_,?_,F.1,?_,F.2⟩;rw [enter (sf:=f56) rfl rfl];simp [f56,p9,u7,g2,g3',iK,l4,hr4.1,stz,q1,gs];exact Q6.mono (m:=ext M3 [j4 row]) (m':=(ext M3 [j4 row]).set M.nx _) (J2 _) (λi hi hs=>p8 E4.ok _ q2 (by omega)) (λi _ hs=>by omega) _ _ tn
 | false=>
  rw [ha] at g2 R2;simp only [J9,if_false] at R2 ⊢;have hx:=hP f (J2 _) (n+3) fu p t _ M2 R2 hW ht (by omega) (by omega) hfu;cases hq:vG f t with
  | none=>rw [hq] at hx;obtain⟨M3,g3,X3⟩:=hx;have g3':o9 KW fu (n+3) (.func 96) [.ptr p 0] M2=_:=g3;refine⟨M3,?_,E1.toB.trans (X2.trans X3)⟩;rw [enter (sf:=f56) rfl rfl];simp [f56,p9,g2,g3',panics]
  | some q=>obtain⟨y,r⟩:=q;rw [hq] at hx;obtain⟨row,M3,g3,X3,hr,R3⟩:=hx;have g3':o9 KW fu (n+3) (.func 96) [.ptr p 0] M2=_:=g3;have hr4:=hr.row;have hX3:=X3.nx;have XX:=X2.trans X3;obtain⟨q1,q2,q3,q4⟩:=stq _ XX;have stz:=sB q3;have gs:∀B,(M3.set M.nx B).get M.nx=some B:=λB=>y8 X3.ok _ q2 rfl;have F:=fin hR q4 q2 R3 (λi hi hs=>sub2 M2 hX2 i hs) (j4 row);refine⟨row,_,?_,F.1,?_,F.2⟩;rw [enter (sf:=f56) rfl rfl];simp [f56,p9,u7,g2,g3',hr4.1,hr4.2,stz,q1,gs,st4 row hr4.1,ld4 row hr4.1];exact Q6.mono (m:=M3) (m':=M3.set M.nx _) (J2 _) (λi hi hs=>p8 X3.ok _ q2 (by omega)) (λi _ hs=>by omega) _ _ hr
 rw [if_neg h6];have i2:¬ (lv:Int)=2:=by omega
 have i6:¬ (lv:Int)=6:=by omega
 have wl:iU ((lv:Int)+1)=(lv:Int)+1:=L8 (by omega) (by omega);have hx:=hE f (J2 _) (lv+1) (n+3) fu p t _ _ hR1 hW ht (by omega) (by omega) (by omega) hfu;cases hq:bZ f (lv+1) t with
 | none=>rw [hq] at hx;obtain⟨M2,g2,X2⟩:=hx;have g2':o9 KW fu (n+3) (.func 56) [.ptr p 0,.int .i64 ((lv:Int)+1)] (ext M [j4 (r4 0 0 [] nS)])=_:=g2;refine⟨M2,?_,E1.toB.trans X2⟩;rw [enter (sf:=f56) rfl rfl];simp [f56,p9,i2,i6,wl,h2,h6,g2',panics]
 | some q=>
  obtain⟨x,r⟩:=q;rw [hq] at hx;obtain⟨row,M2,g2,X2,hr,R2⟩:=hx;have g2':o9 KW fu (n+3) (.func 56) [.ptr p 0,.int .i64 ((lv:Int)+1)] (ext M [j4 (r4 0 0 [] nS)])=_:=g2;have hr4:=hr.row;have hX2:=X2.nx;have E3:=y9 X2.ok [j4 row];have n3:(ext M2 [j4 row]).nx=M2.nx+1:=by simp
  obtain⟨q1,q2,q3,q4⟩:=stq _ (X2.trans E3.toB);have R3:RD (Sx S M.nx M2.nx) p (ext M2 [j4 row]) r:=(R2.wide (S':=Sx S M.nx M2.nx) (λi hi hs=>by
   rcases hs with hs | hs;exact .inl hs;exact .inr ⟨by omega,by omega⟩) (λhs=>by rcases hs with hs | hs;exact hR.np hs.1;omega)).ext E3
  have t3:Q6 (ext M2 [j4 row]) (λi=>M.nx<i∧i≠M2.nx) x row:=Q6.mono E3.nx (λi hi _=>E3.old i hi) (λi hi hs=>⟨by omega,by omega⟩) _ _ hr;have hrl:=(oJ f).1 _ _ _ _ hq;have hL:=Zk (f:=f) (n:=n+3) (fu:=fu) (p:=p) (lv:=lv) (q:=M.nx) (q10:=M2.nx) (M0:=M) (S:=S) hE (by omega) (by omega) hfu hlt rfl (by omega) hR.np (iV (lv:Int)) (.bool false) .undef (.bool false) .undef f (by omega) r x row (ext M2 [j4 row]) fu .undef .undef .undef .undef R3 (λz hz=>hW z (oL f (lv+1) _ _ _ hq z hz)) (by omega) (by omega) q4 (by omega) q3 q1 (by rw [z8 X2.ok];rfl) t3 (by omega);obtain⟨y1,y2,y3,y4,y5,y6⟩:=bG X2.ok R2.iF;simp only;cases hp:mH f lv x r with
  | none=>rw [hp] at hL;obtain⟨c8,c9,c11,c12,M',g,X⟩:=hL;refine⟨M',?_,X⟩;rw [enter (sf:=f56) rfl rfl];simp [f56,p9,i2,i6,wl,h2,h6,g2',y1,y2,y3,y4,y5,y6,hr4.1,hr4.2,st4 row hr4.1,g,panics]
  | some z=>obtain⟨e,r2⟩:=z;rw [hp] at hL;obtain⟨c8,c9,c11,c12,M',row',g,X,gq,hqn,te,Re⟩:=hL;have te4:=te.row;refine⟨row',M',?_,X,Q6.mono (J2 _) (λ_ _ _=>rfl) (λi _ hs=>by omega) _ _ te,Re.wide (λi _ hs=>?_) λhs=>by rcases hs with hs | hs;exact hR.np hs;omega⟩;rw [enter (sf:=f56) rfl rfl];simp [f56,p9,i2,i6,wl,h2,h6,g2',y1,y2,y3,y4,y5,y6,hr4.1,hr4.2,st4 row hr4.1,g,gq,ld4 row' te4.1];rcases hs with hs | hs;exact .inl hs.1;exact .inr (by omega)
theorem vY (f:Nat):∀k,k<=f->CE k∧CP k∧CA k:=by
 induction f with
 | zero=>
  intro k hk;obtain rfl:k=0:=by omega
  exact⟨λlv n fu p t S M hR hW ht hlv hm=>by omega,λn fu p t S M hR hW ht hm=>by omega,λn fu p t S M hR hW ht hm=>by omega⟩
 | succ f ih=>
  intro k hk;by_cases h:k<=f;exact ih k h;obtain rfl:k=f+1:=by omega
  exact⟨Zl (λk hk=>(ih k hk).1) (λk hk=>(ih k hk).2.1),Zj (λk hk=>(ih k hk).1) (λk hk=>(ih k hk).2.2),Zi (λk hk=>(ih k hk).1)⟩
theorem NK {f:Nat}{k:Int}{t r:List Tok}{x:dO}(h:yh f k t=some (x,r)):r.length<t.length:=by unfold yh at h;split at h;split at h;split at h;cases h;rename_i he;have:=(oJ f).1 _ _ _ _ he;cases h;simp at this;omega;cases h;cases h
theorem Wm {f:Nat}{t r:List Tok}{x:dO}(h:Gp f t=some (x,r)):r.length<t.length:=by unfold Gp at h;split at h;rename_i ha;have:=U1 ha;split at h;cases h;rename_i he;have:=(oJ f).2.2.2.1 _ _ _ he;cases h;simp at this;omega;split at h;have:=NK h;simp at this;omega;split at h;split at h;cases h;rename_i he;have:=(oJ f).2.2.1 _ _ _ he;cases h;exact this;exact NK h
theorem KD (f:Nat):(∀t x r,sj f t=some (x,r)->r.length<t.length)∧(∀t x r,qx f t=some (x,r)->r.length<t.length)∧(∀l t x r,wD f l t=some (x,r)->r.length<t.length):=by
 induction f with
 | zero=>exact⟨by intro _ _ _ h;simp [sj] at h,by intro _ _ _ h;simp [qx] at h,by intro _ _ _ _ h;simp [wD] at h⟩
 | succ f ih=>obtain⟨i1,i2,i3⟩:=ih;refine⟨λt x r h=>?_,λt x r h=>?_,λl t x r h=>?_⟩;rw [sj] at h;split at h;rename_i ha;have:=U1 ha;split at h;cases h;rename_i he;have h1:=(oJ f).1 _ _ _ _ he;simp at h1;split at h;cases h;rename_i hb;have h2:=i2 _ _ _ hb;split at h;split at h;cases h;rename_i hc;have h3:=i2 _ _ _ hc;cases h;simp at h3;omega;cases h;omega;split at h;rename_i ha;have:=U1 ha;split at h;cases h;rename_i he;have h1:=(oJ f).1 _ _ _ _ he;simp at h1;split at h;cases h;rename_i hb;have h2:=i2 _ _ _ hb;cases h;omega;split at h;cases h;rename_i he;have h1:=Wm he;split at h;cases h;simp;omega;cases h;rw [qx] at h;split at h;have:=i3 _ _ _ _ h;simp at this;omega;cases h;rw [wD] at h;split at h;rename_i ha;have:=U1 ha;cases h;simp;omega;split at h;cases h;rename_i he;have:=i1 _ _ _ he;have:=i3 _ _ _ _ h;omega
theorem NM (f:Nat)(t:List Tok)(x:dO)(r:List Tok)(h:sj f t=some (x,r))(y:Tok)(hy:y∈r):y∈t:=by have:=(eqS (L:=t) f).1 0 (by omega);rw [Y3,h] at this;rw [this.2.2.1] at hy;exact aa0 hy
def agD (S:Nat->Prop)(p:Nat)(M:Mem)(r:Option (dO×List Tok))(o:bX):Prop:=match r with
 | none=>∃M',o=some [⟨panics,M'⟩]∧bg p M M'
 | some (e,t)=>∃row M',o=some [⟨.agg row,M'⟩]∧bg p M M'∧iE M' (λi=>M.nx<=i) e row∧RD (λi=>S i∨M.nx<=i) p M' t
def agE (S:Nat->Prop)(p:Nat)(M:Mem)(r:Option (List dO×List Tok))(o:bX):Prop:=match r with
 | none=>∃M',o=some [⟨panics,M'⟩]∧bg p M M'
 | some (l,t)=>∃v M',o=some [⟨v,M'⟩]∧bg p M M'∧dS M' (λi=>M.nx<=i) l v∧RD (λi=>S i∨M.nx<=i) p M' t
def CS (f:Nat):Prop:=∀(n fu p:Nat) (t:List Tok) (S:Nat->Prop) (M:Mem),RD S p M t->QW t->t.length<=10000->10*t.length+12<=f->f+40<=n->20000<=fu->
 agD S p M (sj f t) (o9 KW fu n (.func 29) [.ptr p 0] M)
def CM (f:Nat):Prop:=∀(n fu p:Nat) (t:List Tok) (S:Nat->Prop) (M:Mem),RD S p M t->QW t->t.length<=10000->10*t.length+11<=f->f+40<=n->20000<=fu->
 agD S p M (Gp f t) (o9 KW fu n (.func 58) [.ptr p 0] M)
def CB (f:Nat):Prop:=∀(n fu p:Nat) (t:List Tok) (S:Nat->Prop) (M:Mem),RD S p M t->QW t->t.length<=10000->10*t.length+5<=f->f+40<=n->20000<=fu->
 agE S p M (qx f t) (o9 KW fu n (.func 57) [.ptr p 0] M)
theorem acM (z:List j3)(ps:List (Nat×Nat×OF))(ls:List j3)(env:T j3)(nid:Nat)(h:z.length=5):F8 5 1 z ps ls env nid=ob (lay ps ls env z) λcells=>if cells.length=5 then some (.slice nid 0 1 1,some (j4 cells)) else none:=gX 5 z ps ls env nid h
theorem acN {row:List j3}(h:row.length=5){x:OF}{ls:List j3}{env:T j3}(hx:x ls env=.agg row):lay [(0,5,x)] ls env (r5 0 [] nS nS nS)=some row:=by rw [JO];simp only [hx,Aw,h];simp [h]
structure wF (lo:Nat)(S T:Nat->Prop)(M:Mem)(v:j3)(l:List dO):Prop where
 own:∃rows,aM lo 5 M v rows∧G8 M T l rows
 apartT:∀i o n e,v=.sliceU i o n e->¬ T i
 apartS:∀i o n e,v=.sliceU i o n e->¬ S i
 FH:∀i,T i->lo<=i
theorem Zm {f n fu p lo:Nat}(hE:∀k,k<=f->CS k)(hn:f+40<=n)(hfu:20000<=fu)(hpl:p<lo):∀(k:Nat),k<=f+1->∀(t:List Tok) (acc:List dO) (v c1:j3) (S T:Nat->Prop) (M:Mem) (N:Nat),RD S p M t->QW t->t.length<=10000->acc.length+t.length<=10010->10*t.length+13<=k->
  wF lo S T M v acc->lo<=M.nx->M.lim<=lo->t.length+1<=N->
  match wD k acc t with
  | none=>∃c1' v' M',I4 (λenv m k=>BI (o9 KW fu n) fu none env m k) N (Tf (.ptr p 0) c1 v nS) M []=some [⟨.ret,(Tf (.ptr p 0) c1' v' nS),M',[],some (.iface 58 (.agg []))⟩]∧Fr lo p M M'
  | some (l,r)=>∃c1' v' M' T',I4 (λenv m k=>BI (o9 KW fu n) fu none env m k) N (Tf (.ptr p 0) c1 v nS) M []=some [⟨.exit 0,(Tf (.ptr p 0) c1' v' nS),M',[],none⟩]∧Fr lo p M M'∧wF lo (λi=>False) T' M' v' l∧RD (λi=>S i∨M.nx<=i) p M' r:=by
 intro k;induction k with
 | zero=>intro hk t acc v c1 S T M N hR hW ht hac hm;omega
 | succ k ih=>
  intro hk t acc v c1 S T M N hR hW ht hac hm hA hlo hlim hN;obtain⟨N,rfl⟩:∃k,N=k+1:=⟨N-1,by omega⟩;obtain⟨n',rfl⟩:∃k,n=k+3:=⟨n-3,by omega⟩;obtain⟨M1,g1,X1,R1⟩:=kX hR 125 [] n' fu;rw [wD];unfold iR at R1;obtain⟨rows,o1,o2⟩:=hA.own;have tp:∀i,T i->i≠p:=λi hi=>by have:=hA.FH i hi;omega
  have rowsM1:aM lo 5 M1 v rows:=o1.keep X1.nx λi h1 h2=>X1.old i h2 (by omega);have treeM1:G8 M1 T acc rows:=G8.mono X1.nx (λi hi ht=>X1.old i hi (tp i ht)) (λ_ _ h=>h) _ _ o2;cases hp:V3 [125] t with
  | false=>
   rw [hp] at g1 R1;simp only [J9,if_false] at R1 ⊢;have hx:=hE k (by omega) (n'+3) fu p t _ M1 R1 hW (by omega) (by omega) (by omega) hfu;cases hq:sj k t with
   | none=>rw [hq] at hx;obtain⟨M2,g2,X2⟩:=hx;simp only;refine⟨.bool true,v,M2,?_,(X1.trans X2).fr hlo⟩;have g2':o9 KW fu (n'+3) (.func 29) [.ptr p 0] M1=_:=g2;rw [w9];simp [BI,g1,g2',panics]
   | some q=>
    obtain⟨y,r⟩:=q;rw [hq] at hx;obtain⟨row,M2,g2,X2,hr,R2⟩:=hx;simp only;have hr4:=hr.row;have E3:=y9 X2.ok [j4 row];have vlt:∀i o n e,v=.sliceU i o n e->lo<=i∧i<M.nx:=λi o n e hv=>o1.lt hv;have X12:=X1.trans X2;have rowsM3:aM lo 5 (ext M2 [j4 row]) v rows:=(rowsM1.keep X2.nx λi h1 h2=>X2.old i h2 (by omega)).ext E3;have hxr:V7 (ext M2 [j4 row]) 5 (.slice M2.nx 0 1 1) [row]:=by have:=oz X2.ok row (by omega);rw [hr4.1] at this;exact this
    have n3:(ext M2 [j4 row]).nx=M2.nx+1:=(by simp);have hrl:=G8.len o2;obtain⟨v5,M5,gb,ho5,F5,old5⟩:=rZ (lo:=lo) (rs:=5) (bytes:=96) (r:=row) E3.ok (by rw [E3.lim,X12.lim];exact hlim) (by have:=X12.nx;omega) (by omega) rowsM3 hxr hr4.1 hr4.2 (by rw [hrl];omega) ⟨by omega,by omega⟩;have po:=Ch ho5.slice;have g5:∀i,i<M2.nx->(∀o n e,v≠.sliceU i o n e)->M5.get i=M2.get i:=λi hi hv=>(by rw [old5 i (by omega) hv,E3.old i hi]);have hM1:=X1.nx;have hM2:=X2.nx;have hacc:wF lo (λi=>(S i∨M.nx<=i)∧i<M2.nx+1) (λi=>(T i∨M1.nx<=i)∧i<M2.nx+1) M5 v5 (acc ++ [y]):=by
     refine⟨⟨rows ++ [row],ho5.down (by omega),G8.snoc ?_ ?_⟩,λi o n e hv h=>?_,λi o n e hv h=>?_,λi h=>?_⟩;refine G8.mono (by have:=F5.nx;omega) (λi hi ht=>?_) (λi hi ht=>⟨.inl ht,by omega⟩) _ _ treeM1;rw [g5 i (by omega) (λo n e hv=>hA.apartT i o n e hv ht),X2.old i hi (tp i ht)];refine iE.mono (by have:=F5.nx;omega) (λi hi ht=>?_) (λi hi ht=>⟨.inr ht,by omega⟩) _ _ hr;exact g5 i hi λo n e hv=>by have:=(vlt i o n e hv).2;omega
     have:=(ho5.lt hv).1;rw [n3] at this;omega;have:=(ho5.lt hv).1;rw [n3] at this;omega;rcases h.1 with h | h;exact hA.FH i h;omega
    have hnp:¬ ((S p∨M.nx<=p)∧p<M2.nx+1):=λh=>by rcases h.1 with h | h;exact hR.np h;omega
    have R5:RD (λi=>(S i∨M.nx<=i)∧i<M2.nx+1) p M5 r:=by refine R2.mono F5.ok (by have:=F5.nx;omega) (F5.lim.trans E3.lim) (g5 p R2.lt λo n e hv=>by have:=(vlt p o n e hv).1;omega) (λi hi hs=>g5 i hi λo n e hv=>?_) (λi hi hs=>⟨?_,by omega⟩) hnp;have:=vlt i o n e hv;rcases hs with hs | hs;rcases hs with hs | hs;exact hA.apartS i o n e hv hs;omega;omega;rcases hs with hs | hs;exact hs;exact .inr (by omega)
    have hrl2:=(KD k).1 _ _ _ hq;have Fall:Fr lo p M M5:=((X12.fr hlo).trans (E3.fr (by omega))).trans (F5.mono (J2 _));have step:∀N,I4 (λenv m k=>BI (o9 KW fu (n'+3)) fu none env m k) (N+1) (Tf (.ptr p 0) c1 v nS) M []=I4 (λenv m k=>BI (o9 KW fu (n'+3)) fu none env m k) N (Tf (.ptr p 0) (.bool true) v5 nS) M5 []:=λN=>by have g2':o9 KW fu (n'+3) (.func 29) [.ptr p 0] M1=_:=g2;have l5:=λx ls env hx=>acN hr4.1 (x:=x) (ls:=ls) (env:=env) hx;rw [w9];simp [BI,p9,g1,g2',acM,l5,hr4.1,gb,po]
    have hrec:=ih (by omega) r (acc ++ [y]) v5 (.bool true) _ _ M5 N R5 (λx hx=>?_) (by omega) (by simp;omega) (by omega) hacc (by have:=F5.nx;omega) (by rw [F5.lim,E3.lim,X12.lim];exact hlim) (by omega);rw [step];cases hm:wD k (acc ++ [y]) r with
    | none=>rw [hm] at hrec;obtain⟨c1',v',M',g,F⟩:=hrec;exact⟨c1',v',M',g,Fall.trans F⟩
    | some q=>rw [hm] at hrec;obtain⟨c1',v',M',T',g,F,A,R⟩:=hrec;refine⟨c1',v',M',T',g,Fall.trans F,A,R.wide (λi hi hs=>?_) λhp=>by rcases hp with hp | hp;exact hR.np hp;omega⟩;rcases hs with hs | hs;exact hs.1;exact .inr (by have:=F5.nx;omega)
    exact hW x (NM k _ _ _ hq x hx)
  | true=>rw [hp] at g1 R1;simp only [if_true] at R1 ⊢;refine⟨.bool false,v,M1,T,?_,X1.fr hlo,⟨⟨rows,rowsM1,treeM1⟩,hA.apartT,λ_ _ _ _ _ h=>h,hA.FH⟩,R1⟩;rw [w9];simp [BI,g1]
theorem Zn {f:Nat}(hE:∀k,k<=f->CS k):CB (f+1):=by
 intro n fu p t S M hR hW ht hm hn hfu;obtain⟨n,rfl⟩:∃k,n=k+5:=⟨n-5,by omega⟩;obtain⟨M1,g1,X1,R1⟩:=AQ hR 123 [] n fu;have hX1:=X1.nx;have hlt:=hR.lt;unfold iR at R1;rw [qx];cases hp:V3 [123] t with
 | false=>rw [hp] at g1;simp only [J9,if_false] at g1 ⊢;refine⟨M1,?_,X1⟩;rw [enter (sf:=f57) rfl rfl];simp [f57,g1,panics]
 | true=>
  have hl:=U1 hp;rw [hp] at g1 R1;simp only [if_true] at g1 R1 ⊢;have hacc:wF M.nx (λi=>(S i∨M.nx<=i)) (λi=>M.nx<=i) M1 nS []:=
   ⟨⟨[],aM.nil _ _ _,rfl⟩,λi o n e hv=>(by cases hv),λi o n e hv=>(by cases hv),λi h=>h⟩
  have hL:=Zm (f:=f) (n:=n+4) (fu:=fu) (p:=p) (lo:=M.nx) hE (by omega) hfu hlt f (by omega) (t.drop 1) [] nS .undef (_) _ M1 fu R1 (hW.drop 1) (by simp;omega) (by simp;omega) (by simp;omega) hacc hX1 (by rw [X1.lim];exact hR.iF) (by simp;omega);cases hq:wD f [] (t.drop 1) with
  | none=>rw [hq] at hL;obtain⟨c1',v',M',g,F⟩:=hL;refine⟨M',?_,Fr.toB X1 F (J2 _)⟩;rw [enter (sf:=f57) rfl rfl];simp [f57,g1,g,panics]
  | some q=>
   obtain⟨l,r⟩:=q;rw [hq] at hL;obtain⟨c1',v',M',T',g,F,⟨⟨rows,o1,o2⟩,_,_,a4⟩,R3⟩:=hL;have po:=Ch o1.slice;refine⟨v',M',?_,Fr.toB X1 F (J2 _),⟨rows,o1.s,G8.mono (J2 _) (λ_ _ _=>rfl) (λi _ h=>a4 i h) _ _ o2⟩,R3.wide (λi _ hs=>?_) λhs=>by rcases hs with hs | hs;exact hR.np hs;omega⟩
   rw [enter (sf:=f57) rfl rfl];simp [f57,g1,g,po];rcases hs with hs | hs;exact hs;exact .inr (by omega)
theorem lH {M:Mem}{lo:Nat}{x:Ex}{row:List j3}(hm:M.Ok)(h:Q6 M (λi=>lo<=i) x row)(hlo:lo<=M.nx):pX (ext M [j4 row]) (λi=>lo<=i) [x] (.slice M.nx 0 1 1):=by obtain⟨v,rows,h1,h2,h3⟩:=Fv hm h hlo 0;cases h1;exact⟨rows,h2,h3⟩
theorem Wn (f:Nat)(t:List Tok)(x:List dO)(r:List Tok)(h:qx f t=some (x,r))(y:Tok)(hy:y∈r):y∈t:=by have:=(eqS (L:=t) f).2.1 0 (by omega);rw [Y3,h] at this;rw [this.2.2.1] at hy;exact aa0 hy
theorem Zo {f:Nat}(hB:∀k,k<=f->CB k)(hM':∀k,k<=f->CM k):CS (f+1):=by
 intro n fu p t S M hR hW ht hm hn hfu;obtain⟨n,rfl⟩:∃k,n=k+6:=⟨n-6,by omega⟩;have hM:=hR.ok;have hlt:=hR.lt;have hlim:=hR.iF;have E1:=y9 hM [j4 (r5 0 [] nS nS nS)];have n1:(ext M [j4 (r5 0 [] nS nS nS)]).nx=M.nx+1:=by simp
 have hR1:=hR.fence.ext E1;have gq1:(ext M [j4 (r5 0 [] nS nS nS)]).get M.nx=some (j4 (r5 0 [] nS nS nS)):=by rw [z8 hM];rfl
 have stq:∀(M3:Mem),bg p (ext M [j4 (r5 0 [] nS nS nS)]) M3->M3.get M.nx=some (j4 (r5 0 [] nS nS nS))∧M.nx<M3.nx∧M3.lim<=M.nx∧bg p M M3:=λM3 X=>by have:=X.nx;exact⟨by rw [X.old _ (by omega) (by omega),gq1],by omega,by rw [X.lim,E1.lim];exact hlim,E1.toB.trans X⟩
 rw [sj];obtain⟨M1,g1,X1,R1⟩:=kX hR1 105 [102] (n+2) fu;have hX1:=X1.nx;unfold iR at R1;cases hif:V3 [105,102] t with
 | true=>
  have hl:=U1 hif;rw [hif] at g1 R1;simp only [if_true] at R1 ⊢;obtain⟨M2,rfl⟩:∃M2,M2=M1:=⟨_,rfl⟩;have R2:=R1;have X12:=X1;have hx:=(vY f f (J2 _)).1 0 (n+5) fu p (t.drop 1) _ _ R2 (hW.drop 1) (by simp;omega) (by omega) (by simp;omega) (by omega) hfu;cases hq:bZ f 0 (t.drop 1) with
  | none=>rw [hq] at hx;obtain⟨M3,g3,X3⟩:=hx;have g3':o9 KW fu (n+5) (.func 56) [.ptr p 0,iV 0] _=_:=g3;refine⟨M3,?_,E1.toB.trans (X12.trans X3)⟩;rw [enter (sf:=f29) rfl rfl];simp [f29,p9,u7,g1,g3',panics]
  | some q=>
   obtain⟨x,r⟩:=q;rw [hq] at hx;obtain⟨row,M3,g3,X3,hr,R3⟩:=hx;have g3':o9 KW fu (n+5) (.func 56) [.ptr p 0,iV 0] _=_:=g3;have hr4:=hr.row;have hX3:=X3.nx;have hrl:=(oJ f).1 _ _ _ _ hq;simp at hrl;have l4:=λx ls env hx=>wE hr4.1 (x:=x) (ls:=ls) (env:=env) hx;have E4:=y9 X3.ok [j4 row,j4 (r5 3 [] (.slice M3.nx 0 1 1) nS nS)];have n4:(ext M3 [j4 row,j4 (r5 3 [] (.slice M3.nx 0 1 1) nS nS)]).nx=M3.nx+2:=by simp
   have E4a:=y9 X3.ok [j4 row];have E4b:Ext (ext M3 [j4 row]) (ext M3 [j4 row,j4 (r5 3 [] (.slice M3.nx 0 1 1) nS nS)]):=(Ext.refl E4a.ok).new _;obtain⟨rowse,tn1,tn2⟩:=lH X3.ok hr hX3;have n4a:(ext M3 [j4 row]).nx=M3.nx+1:=by simp
   obtain⟨y1,y2,y3,y4,y5,y6⟩:=bG X3.ok R3.iF;have R4:=R3.fence.ext E4;have gq2:(ext M3 [j4 row,j4 (r5 3 [] (.slice M3.nx 0 1 1) nS nS)]).get (M3.nx+1)=some (j4 (r5 3 [] (.slice M3.nx 0 1 1) nS nS)):=by rw [G7 X3.ok];rfl
   have hb:=hB f (J2 _) (n+5) fu p r _ _ R4 (λz hz=>hW z (aa0 (oL f 0 _ _ _ hq z hz))) (by omega) (by omega) (by omega) hfu;simp only;cases hq2:qx f r with
   | none=>rw [hq2] at hb;obtain⟨M5,g5,X5⟩:=hb;refine⟨M5,?_,E1.toB.trans (X12.trans (X3.trans (E4.toB.trans X5)))⟩;rw [enter (sf:=f29) rfl rfl];simp [f29,p9,u7,g1,g3',iK,l4,hr4.1,y1,y2,y3,y4,y5,y6,g5,panics]
   | some q=>
    obtain⟨th,r2⟩:=q;rw [hq2] at hb;obtain⟨vt,M5,g5,X5,⟨rowst,ht1,ht2⟩,R5⟩:=hb;have hX5:=X5.nx;have po:=Ch ht1.slice;have ct:=ht1.slice.cells;have ot:=ht1.slice.K5;have q5:M3.nx+1<M5.nx:=(by omega);have l5:M5.lim<=M3.nx+1:=by rw [X5.lim,E4.lim];have:=R3.iF;omega
    have gq5:M5.get (M3.nx+1)=some (j4 (r5 3 [] (.slice M3.nx 0 1 1) nS nS)):=(X5.old _ (by omega) (by omega)).trans gq2;have st5:=sB l5;have ok6:(M5.set (M3.nx+1) (j4 (r5 3 [] (.slice M3.nx 0 1 1) vt nS))).Ok:=Mem.Ok.set X5.ok q5 _;have gq6:(M5.set (M3.nx+1) (j4 (r5 3 [] (.slice M3.nx 0 1 1) vt nS))).get (M3.nx+1)=some (j4 (r5 3 [] (.slice M3.nx 0 1 1) vt nS)):=y8 X5.ok _ q5 rfl;have X15:=X12.trans (X3.trans (E4.toB.trans X5));have X16:bg p (ext M [j4 (r5 0 [] nS nS nS)]) (M5.set (M3.nx+1) (j4 (r5 3 [] (.slice M3.nx 0 1 1) vt nS))):=⟨ok6,X15.nx,X15.lim,λi hi hn=>by rw [p8 X5.ok _ q5 (by omega),X15.old i hi hn]⟩;simp only;have R6:=RD.mono (M':=M5.set (M3.nx+1) (j4 (r5 3 [] (.slice M3.nx 0 1 1) vt nS))) R5 ok6 (J2 _) rfl (p8 X5.ok _ q5 (by omega)) (λi hi hs=>p8 X5.ok _ q5 (by rcases hs with hs | hs<;>omega)) (λ_ _ h=>h) R5.np
    obtain⟨M7,g7,X7,R7⟩:=kX R6 101 [108,115,101] (n+2) fu;have hX7:M5.nx<=M7.nx:=X7.nx;unfold iR at R7;have gq7:M7.get (M3.nx+1)=some (j4 (r5 3 [] (.slice M3.nx 0 1 1) vt nS)):=(X7.old _ q5 (by omega)).trans gq6;have X17:=X16.trans X7;cases hel:V3 [101,108,115,101] r2 with
    | false=>
     rw [hel] at g7 R7;simp only [J9,if_false] at R7 ⊢;obtain⟨q1,q2,q3,q4⟩:=stq _ X17;have stz:=sB q3;have gs:∀B,(M7.set M.nx B).get M.nx=some B:=λB=>y8 X7.ok _ q2 rfl;have F:=fin hR q4 q2 R7 (λi hi hs=>by
      rcases hs with (⟨(hs | hs) | hs,_⟩ | hs) | hs;exact .inl hs;exact .inr (by omega);exact .inr (by omega);exact .inr (by omega);have:M5.nx<=i:=hs;exact .inr (by omega)) (j4 (r5 3 [] (.slice M3.nx 0 1 1) vt nS))
     have k1:∀i,i<(ext M3 [j4 row]).nx->M2.nx<=i->(M7.set M.nx (j4 (r5 3 [] (.slice M3.nx 0 1 1) vt nS))).get i=(ext M3 [j4 row]).get i:=λi hi hs=>(by rw [p8 X7.ok _ q2 (by omega),X7.old i (by show i<M5.nx;omega) (by omega),p8 X5.ok _ q5 (by omega),X5.old i (by omega) (by omega),E4b.old i hi]);have k2:∀i,i<M5.nx->(ext M3 [j4 row,j4 (r5 3 [] (.slice M3.nx 0 1 1) nS nS)]).nx<=i->(M7.set M.nx (j4 (r5 3 [] (.slice M3.nx 0 1 1) vt nS))).get i=M5.get i:=λi hi hs=>(by rw [p8 X7.ok _ q2 (by omega),X7.old i hi (by omega),p8 X5.ok _ q5 (by omega)]);have a1:(ext M3 [j4 row]).nx<=(M7.set M.nx (j4 (r5 3 [] (.slice M3.nx 0 1 1) vt nS))).nx:=(by show _<=M7.nx;omega);have a2:M5.nx<=(M7.set M.nx (j4 (r5 3 [] (.slice M3.nx 0 1 1) vt nS))).nx:=hX7;refine⟨(r5 3 [] (.slice M3.nx 0 1 1) vt nS),_,?_,F.1,⟨(.slice M3.nx 0 1 1),vt,nS,rowse,rowst,[],rfl,tn1.mono a1 k1 (λi _ h=>by omega),H8.mono a1 k1 (λi _ h=>by omega) _ _ tn2,ht1.mono a2 k2 (λi _ h=>by omega),G8.mono a2 k2 (λi _ h=>by omega) _ _ ht2,.inl ⟨rfl,rfl⟩,rfl⟩,F.2⟩;rw [enter (sf:=f29) rfl rfl];simp [f29,p9,u7,g1,g3',iK,l4,hr4.1,y1,y2,y3,y4,y5,y6,g5,po,ct,ot,st5,gq5,gq7,g7,stz,q1,gs]
    | true=>
     rw [hel] at g7 R7;simp only [if_true] at R7 ⊢;have hl2:=(KD f).2.1 _ _ _ hq2;have hb2:=hB f (J2 _) (n+5) fu p (r2.drop 1) _ _ R7 (λz hz=>hW z (aa0 (oL f 0 _ _ _ hq z (Wn f _ _ _ hq2 z (aa0 hz))))) (by simp;omega) (by simp;omega) (by omega) hfu;cases hq3:qx f (r2.drop 1) with
     | none=>rw [hq3] at hb2;obtain⟨M8,g8,X8⟩:=hb2;refine⟨M8,?_,E1.toB.trans (X17.trans X8)⟩;rw [enter (sf:=f29) rfl rfl];simp [f29,p9,u7,g1,g3',iK,l4,hr4.1,y1,y2,y3,y4,y5,y6,g5,po,ct,ot,st5,gq5,gq7,g7,g8,panics]
     | some q=>
      obtain⟨el,r3⟩:=q;rw [hq3] at hb2;obtain⟨vf,M8,g8,X8,⟨rowsf,hf1,hf2⟩,R8⟩:=hb2;have hX8:=X8.nx;have po2:=Ch hf1.slice;have cf:=hf1.slice.cells;have of:=hf1.slice.K5;have q8:M3.nx+1<M8.nx:=(by omega);have l8:M8.lim<=M3.nx+1:=(by rw [X8.lim,X7.lim];exact l5);have gq8:M8.get (M3.nx+1)=some (j4 (r5 3 [] (.slice M3.nx 0 1 1) vt nS)):=(X8.old _ (by omega) (by omega)).trans gq7;have st8:=sB l8;have ok9:(M8.set (M3.nx+1) (j4 (r5 3 [] (.slice M3.nx 0 1 1) vt vf))).Ok:=Mem.Ok.set X8.ok q8 _;have gq9:(M8.set (M3.nx+1) (j4 (r5 3 [] (.slice M3.nx 0 1 1) vt vf))).get (M3.nx+1)=some (j4 (r5 3 [] (.slice M3.nx 0 1 1) vt vf)):=y8 X8.ok _ q8 rfl;have X18:=X17.trans X8;have X19:bg p (ext M [j4 (r5 0 [] nS nS nS)]) (M8.set (M3.nx+1) (j4 (r5 3 [] (.slice M3.nx 0 1 1) vt vf))):=⟨ok9,X18.nx,X18.lim,λi hi hn=>by rw [p8 X8.ok _ q8 (by omega),X18.old i hi hn]⟩;have R9:=RD.mono (M':=M8.set (M3.nx+1) (j4 (r5 3 [] (.slice M3.nx 0 1 1) vt vf))) R8 ok9 (J2 _) rfl (p8 X8.ok _ q8 (by omega)) (λi hi hs=>p8 X8.ok _ q8 (by
       rcases hs with ((hs | hs) | hs) | hs;omega;omega;have:M5.nx<=i:=hs;omega;omega)) (λ_ _ h=>h) R8.np
      obtain⟨q1,q2,q3,q4⟩:=stq _ X19;have stz:=sB q3;have gs:∀B,((M8.set (M3.nx+1) (j4 (r5 3 [] (.slice M3.nx 0 1 1) vt vf))).set M.nx B).get M.nx=some B:=λB=>y8 ok9 _ q2 rfl;have F:=fin hR q4 q2 R9 (λi hi hs=>by
       rcases hs with ((⟨(hs | hs) | hs,_⟩ | hs) | hs) | hs;exact .inl hs;exact .inr (by omega);exact .inr (by omega);exact .inr (by omega);have:M5.nx<=i:=hs;exact .inr (by omega);exact .inr (by omega)) (j4 (r5 3 [] (.slice M3.nx 0 1 1) vt vf))
      have k1:∀i,i<(ext M3 [j4 row]).nx->M2.nx<=i->((M8.set (M3.nx+1) (j4 (r5 3 [] (.slice M3.nx 0 1 1) vt vf))).set M.nx (j4 (r5 3 [] (.slice M3.nx 0 1 1) vt vf))).get i=(ext M3 [j4 row]).get i:=λi hi hs=>(by rw [p8 ok9 _ q2 (by omega),p8 X8.ok _ q8 (by omega),X8.old i (by omega) (by omega),X7.old i (by show i<M5.nx;omega) (by omega),p8 X5.ok _ q5 (by omega),X5.old i (by omega) (by omega),E4b.old i hi]);have k2:∀i,i<M5.nx->(ext M3 [j4 row,j4 (r5 3 [] (.slice M3.nx 0 1 1) nS nS)]).nx<=i->((M8.set (M3.nx+1) (j4 (r5 3 [] (.slice M3.nx 0 1 1) vt vf))).set M.nx (j4 (r5 3 [] (.slice M3.nx 0 1 1) vt vf))).get i=M5.get i:=λi hi hs=>(by rw [p8 ok9 _ q2 (by omega),p8 X8.ok _ q8 (by omega),X8.old i (by omega) (by omega),X7.old i hi (by omega),p8 X5.ok _ q5 (by omega)]);have k3:∀i,i<M8.nx->M7.nx<=i->((M8.set (M3.nx+1) (j4 (r5 3 [] (.slice M3.nx 0 1 1) vt vf))).set M.nx (j4 (r5 3 [] (.slice M3.nx 0 1 1) vt vf))).get i=M8.get i:=λi hi hs=>by rw [p8 ok9 _ q2 (by omega),p8 X8.ok _ q8 (by omega)]
      have a1:(ext M3 [j4 row]).nx<=((M8.set (M3.nx+1) (j4 (r5 3 [] (.slice M3.nx 0 1 1) vt vf))).set M.nx (j4 (r5 3 [] (.slice M3.nx 0 1 1) vt vf))).nx:=(by show _<=M8.nx;omega);have a2:M5.nx<=((M8.set (M3.nx+1) (j4 (r5 3 [] (.slice M3.nx 0 1 1) vt vf))).set M.nx (j4 (r5 3 [] (.slice M3.nx 0 1 1) vt vf))).nx:=(by show _<=M8.nx;omega);have a3:M8.nx<=((M8.set (M3.nx+1) (j4 (r5 3 [] (.slice M3.nx 0 1 1) vt vf))).set M.nx (j4 (r5 3 [] (.slice M3.nx 0 1 1) vt vf))).nx:=J2 _;refine⟨(r5 3 [] (.slice M3.nx 0 1 1) vt vf),_,?_,F.1,⟨(.slice M3.nx 0 1 1),vt,vf,rowse,rowst,rowsf,rfl,tn1.mono a1 k1 (λi _ h=>by omega),H8.mono a1 k1 (λi _ h=>by omega) _ _ tn2,ht1.mono a2 k2 (λi _ h=>by omega),G8.mono a2 k2 (λi _ h=>by omega) _ _ ht2,hf1.mono a3 k3 (λi _ h=>by omega),G8.mono a3 k3 (λi _ h=>by omega) _ _ hf2⟩,F.2⟩;rw [enter (sf:=f29) rfl rfl];simp [f29,p9,u7,g1,g3',iK,l4,hr4.1,y1,y2,y3,y4,y5,y6,g5,po,ct,ot,st5,gq5,gq7,g7,g8,po2,cf,of,st8,gq8,gq9,stz,q1,gs]
 | false=>
  rw [hif] at g1 R1;simp only [J9,if_false] at R1 ⊢;obtain⟨M2,g2,X2,R2⟩:=kX R1 119 [104,105,108,101] (n+2) fu;have hX2:=X2.nx;have X12:=X1.trans X2;unfold iR at R2;cases hwh:V3 [119,104,105,108,101] t with
  | true=>
   have hl:=U1 hwh;rw [hwh] at g2 R2;simp only [if_true] at R2 ⊢;have hx:=(vY f f (J2 _)).1 0 (n+5) fu p (t.drop 1) _ _ R2 (hW.drop 1) (by simp;omega) (by omega) (by simp;omega) (by omega) hfu;cases hq:bZ f 0 (t.drop 1) with
   | none=>rw [hq] at hx;obtain⟨M3,g3,X3⟩:=hx;have g3':o9 KW fu (n+5) (.func 56) [.ptr p 0,iV 0] _=_:=g3;refine⟨M3,?_,E1.toB.trans (X12.trans X3)⟩;rw [enter (sf:=f29) rfl rfl];simp [f29,p9,u7,g1,g2,g3',panics]
   | some q=>
    obtain⟨x,r⟩:=q;rw [hq] at hx;obtain⟨row,M3,g3,X3,hr,R3⟩:=hx;have g3':o9 KW fu (n+5) (.func 56) [.ptr p 0,iV 0] _=_:=g3;have hr4:=hr.row;have hX3:=X3.nx;have hrl:=(oJ f).1 _ _ _ _ hq;simp at hrl;have l4:=λx ls env hx=>wE hr4.1 (x:=x) (ls:=ls) (env:=env) hx;have E4:=y9 X3.ok [j4 row,j4 (r5 4 [] (.slice M3.nx 0 1 1) nS nS)];have n4:(ext M3 [j4 row,j4 (r5 4 [] (.slice M3.nx 0 1 1) nS nS)]).nx=M3.nx+2:=(by simp);have E4a:=y9 X3.ok [j4 row];have E4b:Ext (ext M3 [j4 row]) (ext M3 [j4 row,j4 (r5 4 [] (.slice M3.nx 0 1 1) nS nS)]):=(Ext.refl E4a.ok).new _;obtain⟨rowse,tn1,tn2⟩:=lH X3.ok hr hX3;have n4a:(ext M3 [j4 row]).nx=M3.nx+1:=(by simp);obtain⟨y1,y2,y3,y4,y5,y6⟩:=bG X3.ok R3.iF;have R4:=R3.fence.ext E4;have gq2:(ext M3 [j4 row,j4 (r5 4 [] (.slice M3.nx 0 1 1) nS nS)]).get (M3.nx+1)=some (j4 (r5 4 [] (.slice M3.nx 0 1 1) nS nS)):=(by rw [G7 X3.ok];rfl);have hb:=hB f (J2 _) (n+5) fu p r _ _ R4 (λz hz=>hW z (aa0 (oL f 0 _ _ _ hq z hz))) (by omega) (by omega) (by omega) hfu;simp only;cases hq2:qx f r with
    | none=>rw [hq2] at hb;obtain⟨M5,g5,X5⟩:=hb;refine⟨M5,?_,E1.toB.trans (X12.trans (X3.trans (E4.toB.trans X5)))⟩;rw [enter (sf:=f29) rfl rfl];simp [f29,p9,u7,g1,g2,g3',iK,l4,hr4.1,y1,y2,y3,y4,y5,y6,g5,panics]
    | some q=>
     obtain⟨th,r2⟩:=q;rw [hq2] at hb;obtain⟨vt,M5,g5,X5,⟨rowst,ht1,ht2⟩,R5⟩:=hb;have hX5:=X5.nx;have po:=Ch ht1.slice;have ct:=ht1.slice.cells;have ot:=ht1.slice.K5;have q5:M3.nx+1<M5.nx:=(by omega);have l5:M5.lim<=M3.nx+1:=by rw [X5.lim,E4.lim];have:=R3.iF;omega
     have gq5:M5.get (M3.nx+1)=some (j4 (r5 4 [] (.slice M3.nx 0 1 1) nS nS)):=(X5.old _ (by omega) (by omega)).trans gq2;have st5:=sB l5;have ok6:(M5.set (M3.nx+1) (j4 (r5 4 [] (.slice M3.nx 0 1 1) vt nS))).Ok:=Mem.Ok.set X5.ok q5 _;have gq6:(M5.set (M3.nx+1) (j4 (r5 4 [] (.slice M3.nx 0 1 1) vt nS))).get (M3.nx+1)=some (j4 (r5 4 [] (.slice M3.nx 0 1 1) vt nS)):=y8 X5.ok _ q5 rfl;have X15:=X12.trans (X3.trans (E4.toB.trans X5));have X16:bg p (ext M [j4 (r5 0 [] nS nS nS)]) (M5.set (M3.nx+1) (j4 (r5 4 [] (.slice M3.nx 0 1 1) vt nS))):=⟨ok6,X15.nx,X15.lim,λi hi hn=>by rw [p8 X5.ok _ q5 (by omega),X15.old i hi hn]⟩;simp only;obtain⟨q1,q2,q3,q4⟩:=stq _ X16;have stz:=sB q3;have gs:∀B,((M5.set (M3.nx+1) (j4 (r5 4 [] (.slice M3.nx 0 1 1) vt nS))).set M.nx B).get M.nx=some B:=λB=>y8 ok6 _ q2 rfl;have R6:=RD.mono (M':=M5.set (M3.nx+1) (j4 (r5 4 [] (.slice M3.nx 0 1 1) vt nS))) R5 ok6 (J2 _) rfl (p8 X5.ok _ q5 (by omega)) (λi hi hs=>p8 X5.ok _ q5 (by rcases hs with hs | hs<;>omega)) (λ_ _ h=>h) R5.np
     have F:=fin hR q4 q2 R6 (λi hi hs=>by
      rcases hs with⟨((hs | hs) | hs) | hs,_⟩ | hs;exact .inl hs;exact .inr (by omega);exact .inr (by omega);exact .inr (by omega);exact .inr (by omega)) (j4 (r5 4 [] (.slice M3.nx 0 1 1) vt nS))
     have k1:∀i,i<(ext M3 [j4 row]).nx->M2.nx<=i->((M5.set (M3.nx+1) (j4 (r5 4 [] (.slice M3.nx 0 1 1) vt nS))).set M.nx (j4 (r5 4 [] (.slice M3.nx 0 1 1) vt nS))).get i=(ext M3 [j4 row]).get i:=λi hi hs=>(by rw [p8 ok6 _ q2 (by omega),p8 X5.ok _ q5 (by omega),X5.old i (by omega) (by omega),E4b.old i hi]);have k2:∀i,i<M5.nx->(ext M3 [j4 row,j4 (r5 4 [] (.slice M3.nx 0 1 1) nS nS)]).nx<=i->((M5.set (M3.nx+1) (j4 (r5 4 [] (.slice M3.nx 0 1 1) vt nS))).set M.nx (j4 (r5 4 [] (.slice M3.nx 0 1 1) vt nS))).get i=M5.get i:=λi hi hs=>(by rw [p8 ok6 _ q2 (by omega),p8 X5.ok _ q5 (by omega)]);have a1:(ext M3 [j4 row]).nx<=((M5.set (M3.nx+1) (j4 (r5 4 [] (.slice M3.nx 0 1 1) vt nS))).set M.nx (j4 (r5 4 [] (.slice M3.nx 0 1 1) vt nS))).nx:=(by show _<=M5.nx;omega);have a2:M5.nx<=((M5.set (M3.nx+1) (j4 (r5 4 [] (.slice M3.nx 0 1 1) vt nS))).set M.nx (j4 (r5 4 [] (.slice M3.nx 0 1 1) vt nS))).nx:=J2 _;refine⟨(r5 4 [] (.slice M3.nx 0 1 1) vt nS),_,?_,F.1,⟨(.slice M3.nx 0 1 1),vt,nS,rowse,rowst,[],rfl,tn1.mono a1 k1 (λi _ h=>by omega),H8.mono a1 k1 (λi _ h=>by omega) _ _ tn2,ht1.mono a2 k2 (λi _ h=>by omega),G8.mono a2 k2 (λi _ h=>by omega) _ _ ht2,.inl ⟨rfl,rfl⟩,rfl⟩,F.2⟩;rw [enter (sf:=f29) rfl rfl];simp [f29,p9,u7,g1,g2,g3',iK,l4,hr4.1,y1,y2,y3,y4,y5,y6,g5,po,ct,ot,st5,gq5,gq6,stz,q1,gs]
  | false=>
   rw [hwh] at g2 R2;simp only [J9,if_false] at R2 ⊢;have hx:=hM' f (J2 _) (n+5) fu p t _ _ R2 hW ht (by omega) (by omega) hfu;cases hq:Gp f t with
   | none=>rw [hq] at hx;obtain⟨M3,g3,X3⟩:=hx;refine⟨M3,?_,E1.toB.trans (X12.trans X3)⟩;rw [enter (sf:=f29) rfl rfl];simp [f29,p9,u7,g1,g2,g3,panics]
   | some q=>
    obtain⟨y,r⟩:=q;rw [hq] at hx;obtain⟨row,M3,g3,X3,hr,R3⟩:=hx;have hr4:=hr.row;have E4:=y9 X3.ok [j4 row];obtain⟨M5,g5,X5,R5⟩:=AQ (R3.ext E4) 59 [] (n+1) fu;have hX3:=X3.nx;have hX5:=X5.nx;have n4:(ext M3 [j4 row]).nx=M3.nx+1:=(by simp);unfold iR at R5;obtain⟨y1,y2,y3,y4,y5,y6⟩:=bG X3.ok R3.iF;have st4:FD (some (j4 (r5 0 [] nS nS nS))) 0 row=some (j4 row):=by rw [jT (by simp [hr4.1]) (by simp)];simp [hr4.1]
    have ld4:Hy (some (j4 row)) 0 5=some (.agg row):=(by rw [jS (by omega) (by omega),Y3,aar (by omega)]);have XX:=X12.trans (X3.trans (E4.toB.trans X5));simp only;cases h41:V3 [59] r with
    | false=>rw [h41] at g5;refine⟨M5,?_,E1.toB.trans XX⟩;rw [enter (sf:=f29) rfl rfl];simp [f29,p9,u7,g1,g2,g3,g5,y1,y2,y3,y4,y5,y6,hr4.1,hr4.2,st4,panics]
    | true=>
     rw [h41] at g5 R5;simp only [if_true] at R5 ⊢;obtain⟨q1,q2,q3,q4⟩:=stq _ XX;have stz:=sB q3;have gx:M5.get M3.nx=some (j4 row):=(by rw [X5.old _ (by omega) (by omega),z8 X3.ok];rfl);have gs:∀B,(M5.set M.nx B).get M.nx=some B:=λB=>y8 X5.ok _ q2 rfl;have F:=fin hR q4 q2 R5 (λi hi hs=>by
      rcases hs with (((hs | hs) | hs) | hs) | hs;exact .inl hs;exact .inr (by omega);exact .inr (by omega);exact .inr (by omega);exact .inr (by omega)) (j4 row)
     refine⟨row,_,?_,F.1,?_,F.2⟩;rw [enter (sf:=f29) rfl rfl];simp [f29,p9,u7,g1,g2,g3,g5,y1,y2,y3,y4,y5,y6,hr4.1,hr4.2,st4,ld4,gx,gs,stz,q1];refine iE.mono (m:=M3) (m':=M5.set M.nx (j4 row)) (by show M3.nx<=M5.nx;omega) (λi hi hs=>?_) (λi hi hs=>by omega) _ _ hr;rw [p8 X5.ok _ q2 (by omega),X5.old i (by omega) (by omega),E4.old i hi]
end
end Go.Proofs.YteecnooaopfkeaaGreatDoor.TT
