/- Names and well-formed expressions, walked; conditions: the memory holds what the arguments say. -/
import Derived.Test.YtfddpcckppibjaaGreatDoorPD1
set_option linter.all false
namespace Go.Proofs.YtfddpcckppibjaaGreatDoor.TT
open Go Go.AM
noncomputable section
def akp (s:By):Nat:=if sW (s.headD 0) then 1 else 3
def Me (s:By):List Tok->Bool
 | []=>false
 | t :: _=>decide (t=(akp s,s))
def SF:List By:=[[108,101,116],[105,102],[101,108,115,101],[119,104,105,108,101],[112,114,105,110,116],[97,110,100],[111,114],[110,111,116]]
def Dm (s:By):Bool:=SF.contains s
def XY:List Tok->Bool
 | []=>false
 | t :: _=>decide (t.1=1) && !Dm t.2
def pOp (lv:Int):List Tok->Option Int
 | []=>none
 | t :: _=>KX lv (t.1:Int) t.2
def arj:List Tok->Bool
 | []=>false
 | t :: _=>decide (t.1=2)
def txt (t:List Tok):By:=(t.headD (0,[])).2
mutual
def FY:Nat->Nat->List Tok->Option (Ex×List Tok)
 | 0,_,_=>none
 | f+1,lv,t=>
  if lv=2 then
   if Me [110,111,116] t then (match FY f 2 (t.drop 1) with | none=>none | some (x,r)=>some (.mk 5 0 [] [x],r)) else FY f 3 t
  else if lv=6 then
   if Me [45] t then (match FY f 6 (t.drop 1) with | none=>none | some (x,r)=>some (.mk 4 0 [] [x],r)) else akq f t
  else match FY f (lv+1) t with
   | none=>none
   | some (x,r)=>adu f lv x r
def adu:Nat->Nat->Ex->List Tok->Option (Ex×List Tok)
 | 0,_,_,_=>none
 | f+1,lv,x,t=>match pOp (lv:Int) t with
  | none=>some (x,t)
  | some k=>match FY f (lv+1) (t.drop 1) with
   | none=>none
   | some (y,r)=>if lv=3 then some (.mk k 0 [] [x,y],r) else adu f lv (.mk k 0 [] [x,y]) r
def akq:Nat->List Tok->Option (Ex×List Tok)
 | 0,_=>none
 | f+1,t=>
  if arj t then some (.mk 1 (akg (txt t):Nat) [] [],t.drop 1)
  else if Me [40] t then
   match FY f 0 (t.drop 1) with
   | none=>none
   | some (x,r)=>if Me [41] r then some (x,r.drop 1) else none
  else if XY t then
   if Me [40] (t.drop 1) then
    if Me [41] (t.drop 2) then some (.mk 3 0 (txt t) [],t.drop 3)
    else match adv f (t.drop 2) with
     | none=>none
     | some (l,r)=>if Me [41] r then some (.mk 3 0 (txt t) l,r.drop 1) else none
   else some (.mk 2 0 (txt t) [],t.drop 1)
  else none
def adv:Nat->List Tok->Option (List Ex×List Tok)
 | 0,_=>none
 | f+1,t=>match FY f 0 t with
  | none=>none
  | some (x,r)=>adw f [x] r
def adw:Nat->List Ex->List Tok->Option (List Ex×List Tok)
 | 0,_,_=>none
 | f+1,acc,t=>if Me [44] t then
    match FY f 0 (t.drop 1) with
    | none=>none
    | some (y,r)=>adw f (acc ++ [y]) r
  else some (acc,t)
end
def akr (f:Nat)(k:Int)(t:List Tok):Option (V7×List Tok):=
 if XY t then
  if Me [61] (t.drop 1) then
   match FY f 0 (t.drop 2) with
   | none=>none
   | some (x,r)=>some (.mk k (txt t) [x] [] [],r)
  else none
 else none
def aks (t:List Tok):Bool:=Me [40] (t.drop 1)&&XY t
def ark (f:Nat)(t:List Tok):Option (V7×List Tok):=
 if Me [112,114,105,110,116] t then
  match adv f (t.drop 1) with
  | none=>none
  | some (l,r)=>some (.mk 5 [] l [] [],r)
 else if Me [108,101,116] t then akr f 1 (t.drop 1)
 else if aks t then
  match akq f t with
  | none=>none
  | some (x,r)=>some (.mk 6 [] [x] [] [],r)
 else akr f 2 t
mutual
def arl:Nat->List Tok->Option (V7×List Tok)
 | 0,_=>none
 | f+1,t=>
  if Me [105,102] t then
   match FY f 0 (t.drop 1) with
   | none=>none
   | some (x,r)=>match afc f r with
    | none=>none
    | some (th,r2)=>if Me [101,108,115,101] r2 then
      match afc f (r2.drop 1) with
      | none=>none
      | some (el,r3)=>some (.mk 3 [] [x] th el,r3)
     else some (.mk 3 [] [x] th [],r2)
  else if Me [119,104,105,108,101] t then
   match FY f 0 (t.drop 1) with
   | none=>none
   | some (x,r)=>match afc f r with
    | none=>none
    | some (th,r2)=>some (.mk 4 [] [x] th [],r2)
  else match ark f t with
   | none=>none
   | some (s,r)=>if Me [59] r then some (s,r.drop 1) else none
def afc:Nat->List Tok->Option (List V7×List Tok)
 | 0,_=>none
 | f+1,t=>if Me [123] t then akt f [] (t.drop 1) else none
def akt:Nat->List V7->List Tok->Option (List V7×List Tok)
 | 0,_,_=>none
 | f+1,acc,t=>if Me [125] t then some (acc,t.drop 1) else
    match arl f t with
    | none=>none
    | some (s,r)=>akt f (acc ++ [s]) r
end
def Am (r t:List Tok):Prop:=∀y∈r,y∈t
theorem Am.t {a b c:List Tok}(h:Am a b)(g:Am b c):Am a c:=λy d=>g y (h y d)
theorem Am.d {r t:List Tok}{n:Nat}(h:Am r (t.drop n)):Am r t:=λy a=>aeI (h y a)
theorem Am.e {r t:List Tok}{n:Nat}(h:Am r t):Am (r.drop n) t:=λy a=>h y (aeI a)
theorem Am.r (t:List Tok):Am t t:=λ_ h=>h
set_option maxRecDepth 100000
set_option maxHeartbeats 1000000
theorem eD.tail {M:Mem}{S:Nat->Prop}{rs:Nat}{v:d9}{t:List d9}{ts:List (List d9)}(g:M.Ok)(h:eD M S rs v (t::ts)):
  ∃v' nb,(∀(y a:OF) (ls:List d9) (env:T d9),y ls env=v->a ls env=.int .i64 1->lSl rs y (some a) none ls env M.nx=some (v',nb))∧eD (dH M nb) (λi=>S i∨M.nx<=i) rs v' ts∧Ext M (dH M nb):=by
 rcases h with⟨_,h⟩ | ⟨id,o,h0,h1,h2,h3⟩;cases h;rcases h3 with h3 | ⟨n,rows,h4,h5,h6,h7⟩;cases h3;have e:ts=[]∨∃n rows,M.get id=some (.cells rs n rows)∧o+1+ts.length<=n∧(∀r,r∈ts->r.length=rs)∧∀i (h:i<ts.length),rows.get (o+1+i)=some ts[i]:=by refine .inr ⟨n,rows,h4,by simp at h5;omega,λr k=>h6 r (by simp [k]),λi m=>?_⟩;have:=h7 (i+1) (by simp;omega);rw [show o+1+i=o+(i+1) from by omega,this];rfl
 have j:Nat.add (o*rs) (Nat.mul 1 rs)=(o+1)*rs:=by rw [ad8];rfl
 rcases h1 with⟨c,rfl,hc⟩ | rfl;have f:ts.length+1<=c:=by simpa using hc
 refine⟨.slice id (bi (Nat.beq 1 c) (o*rs) (Nat.add (o*rs) (Nat.mul 1 rs))) ts.length (c-1),none,λy a ls env d b=>?_,?_,Ext.refl g⟩;show jP (a ls env) (λl=>M9 M.nx rs (y ls env) l none)=_;rw [b,d];show bi (Nat.ble 1 (ts.length+1)) (bi (Nat.ble (ts.length+1) c) (some (d9.slice id (bi (Nat.beq 1 c) (o*rs) (Nat.add (o*rs) (Nat.mul 1 rs))) (Nat.sub (ts.length+1) 1) (Nat.sub c 1),none)) none) none=_;rw [show Nat.ble 1 (ts.length+1)=true from Z4 (by omega),show Nat.ble (ts.length+1) c=true from Z4 f];rfl;rw [lK];by_cases hc1:1=c;rw [if_pos hc1];have:ts=[]:=aaB.1 (by omega);subst this;exact .inr ⟨id,o,.inl h0,.inl ⟨c-1,rfl,by simp⟩,h2,.inl rfl⟩;rw [if_neg hc1,j];exact .inr ⟨id,o+1,.inl h0,.inl ⟨c-1,rfl,by omega⟩,h2,e⟩;by_cases ht:ts=[];subst ht;refine⟨.sliceU M.nx 0 0 rs,some (.tail id),λy a ls env d b=>?_,?_,(Ext.refl g).new _⟩;show jP (a ls env) (λl=>M9 M.nx rs (y ls env) l none)=_;rw [b,d];show bi (Nat.beq rs rs) _ none=_;rw [show Nat.beq rs rs=true from abB rs];rfl;exact .inr ⟨M.nx,0,.inr (q9 _),.inr (by simp),by show M.nx<M.nx+1;omega,.inl rfl⟩;have p:=ahs.2 ht;refine⟨.sliceU id (Nat.add (o*rs) (Nat.mul 1 rs)) ts.length rs,none,λy a ls env d b=>?_,?_,Ext.refl g⟩;show jP (a ls env) (λl=>M9 M.nx rs (y ls env) l none)=_;rw [b,d];show bi (Nat.ble 1 (ts.length+1)) (bi (Nat.ble (ts.length+1) (ts.length+1)) (bi (Nat.beq rs rs) (bi (Nat.blt 1 (ts.length+1)) (some (d9.sliceU id (Nat.add (o*rs) (Nat.mul 1 rs)) (Nat.sub (ts.length+1) 1) rs,none)) _) none) none) none=_;rw [show Nat.ble 1 (ts.length+1)=true from Z4 (by omega),show Nat.ble (ts.length+1) (ts.length+1)=true from Z4 (q9 _),show Nat.beq rs rs=true from abB rs,show Nat.blt 1 (ts.length+1)=true from Y4.mpr (by omega)];rfl;rw [j];exact .inr ⟨id,o+1,.inl h0,.inr rfl,h2,e⟩
structure RD (S:Nat->Prop)(p:Nat)(M:Mem)(toks:List Tok):Prop where
 ok:M.Ok
 lt:p<M.nx
 lim:M.lim<=p
 np:¬ S p
 has:∃v,M.get p=some (l9 [v])∧eD M S 2 v (vL toks)
theorem RD.Aa {S:Nat->Prop}{p:Nat}{M:Mem}{a:List Tok}(h:RD S p M a):M.lim<=M.nx:=aA h.lim (ahj h.lt)
theorem RD.ext {S:Nat->Prop}{p:Nat}{M a:Mem}{toks:List Tok}(h:RD S p M toks)(e:Ext M a):RD S p a toks:=by obtain⟨v,b,c⟩:=h.has;exact⟨e.ok,gq h.lt e.nx,by rw [e.lim];exact h.lim,h.np,v,(e.old p h.lt).trans b,c.mono e.nx (λi d _=>e.old i d) λ_ _ h=>h⟩
theorem RD.drop {S:Nat->Prop}{p:Nat}{M:Mem}{t:Tok}{ts:List Tok}(h:RD S p M (t::ts)):∃v v' nb,M.get p=some (l9 [v])∧dW M 2 v (vL (t::ts))∧(∀(y a:OF) (ls:List d9) (env:T d9),y ls env=v->a ls env=.int .i64 1->lSl 2 y (some a) none ls env M.nx=some (v',nb))∧Go.AM.u7 v'=true∧v'.cells=[v']∧(dH M nb).get p=some (l9 [v])∧
  (dH M nb).lim<=p∧dU p M ((dH M nb).set p (l9 [v']))∧RD (λi=>S i∨M.nx<=i) p ((dH M nb).set p (l9 [v'])) ts:=by
 obtain⟨v,j,k⟩:=h.has;obtain⟨v',nb,l,f,c⟩:=eD.tail (t:=adt t) (ts:=vL ts) h.ok k;have b:p<(dH M nb).nx:=gq h.lt c.nx;have g:∀i,S i∨M.nx<=i->i≠p:=λi d m=>by subst m;rcases d with d | d;exact h.np d;have:=h.lt;omega
 refine⟨v,v',nb,j,k.slice,l,f.slice.u7,f.slice.cells,(c.old p h.lt).trans j,by rw [c.lim];exact h.lim,⟨Mem.Ok.set c.ok b _,by simpa using c.nx,by simpa using c.lim,λi d n=>by rw [K5 c.ok _ b n,c.old i d]⟩,
  Mem.Ok.set c.ok b _,by simpa using b,by show (dH M nb).lim<=p;rw [c.lim];exact h.lim,λe=>by rcases e with e | e;exact h.np e;have:=h.lt;omega,v',I8 c.ok _ b rfl,f.mono (by simp) (λi d o=>K5 c.ok _ b (g i o)) λ_ _ h=>h⟩
theorem RD.wide {S S':Nat->Prop}{p:Nat}{M:Mem}{toks:List Tok}(h:RD S p M toks)(c:∀i,i<M.nx->S i->S' i)(hp:¬ S' p):RD S' p M toks:=by obtain⟨v,a,b⟩:=h.has;exact⟨h.ok,h.lt,h.lim,hp,v,a,b.mono (q9 _) (λ_ _ _=>rfl) c⟩
theorem XZ {m:Mem}{v:d9}{s:By}{cf:H8}{fu:Nat}(l:List By)(z:l.length<=1000)(x:dV m v (strs l)):
  ∀(j i:Nat),i+j=l.length->∀(c3 c5 c6:d9) (N:Nat),j+1<=N->
  (s∉l.drop i∧∃c3' c5' c6',C8 (λenv m k=>qJ cf fu none env m k) N (qL v (iV (i:Int)) (iV (l.length:Int)) c3 (.str s) c5 c6 (iV 0)) m []=some [⟨.exit 0,(qL v (iV (l.length:Int)) (iV (l.length:Int)) c3' (.str s) c5' c6' (iV 0)),m,[],none⟩])∨
  (s∈l.drop i∧∃(x1 x3 x5 x6:d9) (j:Nat),C8 (λenv m k=>qJ cf fu none env m k) N (qL v (iV (i:Int)) (iV (l.length:Int)) c3 (.str s) c5 c6 (iV 0)) m []=some [⟨.ret,(qL v x1 (iV (l.length:Int)) x3 (.str s) x5 x6 (iV (j:Int))),m,[],none⟩]):=by
 intro j;induction j with
 | zero=>
  intro i u c3 c5 c6 N r;obtain⟨N,rfl⟩:∃k,N=k+1:=⟨N-1,by omega⟩;obtain rfl:i=l.length:=by omega
  refine .inl ⟨by simp,.bool false,c5,c6,?_⟩;rw [o7];simp [qJ]
 | succ j ih=>
  intro i u c3 c5 c6 N r;obtain⟨N,rfl⟩:∃k,N=k+1:=⟨N-1,by omega⟩;have d:i<l.length:=by omega
  have e:(i:Int)<(l.length:Int):=by omega
  obtain⟨id,c,q,y,n⟩:=x.at (i:=i) (by rw [eZ];omega);have p:(strs l)[i]'(by rw [eZ];exact d)=.str l[i]:=aj5 ..;rw [p] at n;have g:rO v none (λid c f _=>idx f (iV (i:Int)) λk=>some (d9.ptr id (c+k))) (λid c f _=>idx f (iV (i:Int)) λk=>some (d9.ptr id (c+k)))=some (.ptr id c):=by simpa using q
  have t:l.drop i=l[i]::l.drop (i+1):=Xd d;rw [t];by_cases hs:s=l[i];refine .inr ⟨by rw [hs];exact ady,iV (i:Int),.bool true,iV (i:Int),.bool true,i,?_⟩;rw [o7];simp [qJ,d,e,g,n,← hs,p9];have o:=ih (i+1) (by omega) tt (iV (i:Int)) ff N (by omega);have h:C8 (λenv m k=>qJ cf fu none env m k) (N+1) (qL v (iV (i:Int)) (iV (l.length:Int)) c3 (.str s) c5 c6 (iV 0)) m []=C8 (λenv m k=>qJ cf fu none env m k) N (qL v (.int .i64 ((i+1:Nat):Int)) (iV (l.length:Int)) tt (.str s) (iV (i:Int)) ff (iV 0)) m []:=by rw [o7];simp [qJ,d,e,g,n,hs,p9,L6 (i:=i) (by omega)]
  rw [h];rcases o with⟨a,b⟩ | ⟨a,b⟩;exact .inl ⟨λw=>(Z5.1 w).elim hs a,b⟩;exact .inr ⟨Z7 _ a,b⟩
theorem ab8 {m:Mem}{v:d9}{s:By}(l:List By)(i:l.length<=1000)(f:dV m v (strs l))(n fu:Nat)(h:2000<=fu):
  l7 KW fu (n+2) (.func 199) [v,.str s] m=some [⟨.bool (decide (s∈l)),m⟩]:=by
 have b:=f.len;rw [eZ] at b;have e:(s∉l∧l7 KW fu (n+1) (.func 250) [v,.str s] m=some [⟨iV (-1),m⟩])∨(s∈l∧∃j:Nat,l7 KW fu (n+1) (.func 250) [v,.str s] m=some [⟨iV (j:Int),m⟩]):=by rcases XZ (s:=s) (cf:=l7 KW fu n) (fu:=fu) l i f l.length 0 (by omega) .undef .undef .undef fu (by omega) with⟨a,c3',c5',c6',g⟩ | ⟨a,x1,x3,x5,x6,j,g⟩;have d:C8 (λc m k=>qJ (l7 KW fu n) fu none c m k) fu (qL v (iV 0) (iV (l.length:Int)) .undef (.str s) .undef .undef (iV 0)) m []=_:=g;refine .inl ⟨by simpa using a,?_⟩;rw [enter (sf:=f250) rfl rfl];simp [f250,b,d];have d:C8 (λc m k=>qJ (l7 KW fu n) fu none c m k) fu (qL v (iV 0) (iV (l.length:Int)) .undef (.str s) .undef .undef (iV 0)) m []=_:=g;refine .inr ⟨by simpa using a,j,?_⟩;rw [enter (sf:=f250) rfl rfl];simp [f250,b,d]
 rw [enter (sf:=f199) rfl rfl];rcases e with⟨a,g⟩ | ⟨a,j,g⟩;simp [f199,g,a];have:(0:Int)<=(j:Int):=by omega
 simp [f199,g,a,this]
theorem bs8 (ls:List d9)(env:T d9)(a:Nat):O9 1 8 [.str []] [(0,1,E9 (.str [108,101,116])),(1,1,E9 (.str [105,102])),(2,1,E9 (.str [101,108,115,101])),(3,1,E9 (.str [119,104,105,108,101])),(4,1,E9 (.str [112,114,105,110,116])),(5,1,E9 (.str [97,110,100])),(6,1,E9 (.str [111,114])),(7,1,E9 (.str [110,111,116]))] ls env a=some (.slice a 0 8 8,some (.cells 1 8 (T.ofList ((strs SF).map ([·]))))):=rfl
theorem ab9 {m:Mem}(b:m.Ok)(s:By)(n fu:Nat)(a:2000<=fu):∃m',l7 KW fu (n+3) (.func 108) [.str s] m=some [⟨.bool (Dm s),m'⟩]∧Ext m m':=by
 have E:=G6 b [.cells 1 8 (T.ofList ((strs SF).map ([·])))];have c:dV (ext m [.cells 1 8 (T.ofList ((strs SF).map ([·])))]) (.slice m.nx 0 8 8) (strs SF):=Lh b (strs SF);have g:=ab8 (s:=s) SF (by decide) c n fu a;have e:decide (s∈SF)=Dm s:=by unfold Dm;rw [List.contains_eq_mem]
 rw [e] at g;refine⟨_,?_,E⟩;rw [enter (sf:=f108) rfl rfl];simp [f108,G9,H9,bs8,g]
def fC (f:Ex->Int->Int):List Ex->Int->Int->Int
 | [],n,_=>n
 | e::l,n,most=>if n<=most then fC f l (n+f e (most-n)) most else n
def FZ:Ex->List Ex
 | .mk _ _ _ a=>a
def wX:Nat->Ex->Int->Int
 | 0,_,most=>most+1
 | d+1,e,most=>fC (wX d) (FZ e) 1 most
def stN:V7->List UInt8
 | .mk _ s _ _ _=>s
def stE:V7->List Ex
 | .mk _ _ e _ _=>e
def stT:V7->List V7
 | .mk _ _ _ t _=>t
def stF:V7->List V7
 | .mk _ _ _ _ f=>f
def UZ (F:List V7->Int->Int)(X:Ex->Int->Int):List V7->Int->Int->Int
 | [],n,_=>n
 | s::l,n,most=>if n<=most then
    UZ F X l (fC X (stE s) (n+1+((stN s).length / 100:Nat)+F (stT s) (most-n)+F (stF s) (most-n)) most) most else n
def wS:Nat->List V7->Int->Int
 | 0,_,most=>most+1
 | d+1,l,most=>UZ (wS d) (wX d) l 0 most
theorem Ab (f:Ex->Int->Int)(hf:∀e most,0<=most->0<=f e most):∀(l:List Ex) (n most:Int),n<=fC f l n most
 | [],n,most=>Int.le_refl _
 | e::l,n,most=>by rw [fC];split;have h1:=hf e (most-n) (by omega);have h2:=Ab f hf l (n+f e (most-n)) most;omega;omega
theorem OH (f:Ex->Int->Int)(hf:∀e most,0<=most->f e most<=most+1):∀(l:List Ex) (n most:Int),fC f l n most<=max n (most+1)
 | [],n,most=>by rw [fC];omega
 | e::l,n,most=>by rw [fC];split;have h1:=hf e (most-n) (by omega);have h2:=OH f hf l (n+f e (most-n)) most;omega;omega
theorem Ga:∀(d:Nat) (e:Ex) (most:Int),0<=most->1<=wX d e most∧wX d e most<=most+1
 | 0,e,most,h=>by rw [wX];omega
 | d+1,e,most,h=>by rw [wX];have h1:=Ab (wX d) (λe m hm=>by have:=Ga d e m hm;omega) (FZ e) 1 most;have h2:=OH (wX d) (λe m hm=>(Ga d e m hm).2) (FZ e) 1 most;omega
theorem BA (d:Nat)(hd:∀(e:Ex)(most:Int),0<=most->wX d e most<=most->wX d e most=(gM e:Int)∧dZ e<=d):
  ∀(l:List Ex) (n most:Int),fC (wX d) l n most<=most->fC (wX d) l n most=n+(T9 l:Int)∧V6 l<=d
 | [],n,most,h=>by simp [fC,T9,V6]
 | e::l,n,most,h=>by rw [fC] at h ⊢;split at h;rename_i hn;rw [if_pos hn];have hg:=Ab (wX d) (λe m hm=>by have:=Ga d e m hm;omega) l (n+wX d e (most-n)) most;obtain⟨h1,h2⟩:=hd e (most-n) (by omega) (by omega);obtain⟨h3,h4⟩:=BA d hd l _ most h;rw [h3,h1,T9,V6];exact⟨by omega,by omega⟩;omega
theorem Ya:∀(d:Nat) (e:Ex) (most:Int),0<=most->wX d e most<=most->wX d e most=(gM e:Int)∧dZ e<=d
 | 0,e,most,h0,h=>by rw [wX] at h;omega
 | d+1,.mk k n s a,most,h0,h=>by rw [wX] at h ⊢;obtain⟨h1,h2⟩:=BA d (Ya d) a 1 most h;exact⟨by rw [FZ,h1,gM];omega,by rw [dZ];omega⟩
mutual
def stW:V7->Nat
 | .mk _ s e t f=>1+s.length / 100+Dn t+Dn f+T9 e
def Dn:List V7->Nat
 | []=>0
 | s::l=>stW s+Dn l
end
mutual
def vC:V7->Nat
 | .mk _ s e t f=>1300+s.length+uj t+uj f+700*e.length
def uj:List V7->Nat
 | []=>0
 | s::l=>vC s+uj l
end
theorem BD (d:Nat)(l:List Ex)(n most:Int):n<=fC (wX d) l n most:=Ab (wX d) (λe m a=>by have:=Ga d e m a;omega) l n most
theorem JD (d:Nat):∀(l:List Ex) (n most:Int),0<=n->most<=600->fC (wX d) l n most<=n+700*(l.length:Int)
 | [],n,most,h0,h=>by simp [fC]
 | e::l,n,most,h0,h=>by rw [fC];split;have h1:=Ga d e (most-n) (by omega);have h2:=JD d l (n+wX d e (most-n)) most (by omega) h;rw [Y6];omega;rw [Y6];omega
theorem QT (d:Nat)(hF:∀(l:List V7)(most:Int),0<=most->most<=600->0<=wS d l most∧wS d l most<=601+(uj l:Int)):
  ∀(l:List V7) (n most:Int),0<=n->most<=600->n<=UZ (wS d) (wX d) l n most∧UZ (wS d) (wX d) l n most<=n+(uj l:Int)
 | [],n,most,h0,h=>by simp [UZ,uj]
 | .mk k s e t f::l,n,most,h0,h=>by rw [UZ,uj,vC];split;rename_i hn;obtain⟨a1,a2⟩:=hF t (most-n) (by omega) (by omega);obtain⟨b1,b2⟩:=hF f (most-n) (by omega) (by omega);have hdiv:s.length / 100<=s.length:=ak4 _ _;simp only [stN,stE,stT,stF];have c1:=BD d e (n+1+(s.length / 100:Nat)+wS d t (most-n)+wS d f (most-n)) most;have c2:=JD d e (n+1+(s.length / 100:Nat)+wS d t (most-n)+wS d f (most-n)) most (by omega) h;generalize fC (wX d) e (n+1+(s.length / 100:Nat)+wS d t (most-n)+wS d f (most-n)) most=y at c1 c2 ⊢;obtain⟨e1,e2⟩:=QT d hF l y most (by omega) h;exact⟨by omega,by omega⟩;exact⟨by omega,by omega⟩
theorem JE:∀(d:Nat) (l:List V7) (most:Int),0<=most->most<=600->0<=wS d l most∧wS d l most<=601+(uj l:Int)
 | 0,l,most,h0,h=>by rw [wS];omega
 | d+1,l,most,h0,h=>by rw [wS];obtain⟨h1,h2⟩:=QT d (JE d) l 0 most (by omega) h;exact⟨by omega,by omega⟩
theorem SG (d:Nat)(hF:∀(l:List V7)(most:Int),0<=most->most<=600->wS d l most<=most->wS d l most=(Dn l:Int)∧au l<=d):
  ∀(l:List V7) (n most:Int),0<=n->most<=600->UZ (wS d) (wX d) l n most<=most->UZ (wS d) (wX d) l n most=n+(Dn l:Int)∧au l<=d+1
 | [],n,most,h0,hm,h=>by simp [UZ,Dn,au]
 | .mk k s e t f::l,n,most,h0,hm,h=>by rw [UZ] at h ⊢;split at h;rename_i hn;rw [if_pos hn];have a1:=JE d t (most-n) (by omega) (by omega);have b1:=JE d f (most-n) (by omega) (by omega);simp only [stN,stE,stT,stF] at h ⊢;have c1:=BD d e (n+1+(s.length / 100:Nat)+wS d t (most-n)+wS d f (most-n)) most;have e1:=(QT d (JE d) l (fC (wX d) e (n+1+(s.length / 100:Nat)+wS d t (most-n)+wS d f (most-n)) most) most (by omega) hm).1;obtain⟨g1,g2⟩:=SG d hF l _ most (by omega) hm h;obtain⟨t1,t2⟩:=hF t (most-n) (by omega) (by omega) (by omega);obtain⟨f1,f2⟩:=hF f (most-n) (by omega) (by omega) (by omega);obtain⟨x1,x2⟩:=BA d (Ya d) e _ most (by omega:fC (wX d) e (n+1+(s.length / 100:Nat)+wS d t (most-n)+wS d f (most-n)) most<=most);rw [g1,x1,t1,f1,Dn,stW,au,rJ];exact⟨by omega,by omega⟩;omega
theorem Yb:∀(d:Nat) (l:List V7) (most:Int),0<=most->most<=600->wS d l most<=most->wS d l most=(Dn l:Int)∧au l<=d
 | 0,l,most,h0,hm,h=>by rw [wS] at h;omega
 | d+1,l,most,h0,hm,h=>by rw [wS] at h ⊢;obtain⟨h1,h2⟩:=SG d (Yb d) l 0 most (by omega) hm h;exact⟨by omega,h2⟩
mutual
theorem akv:∀s:V7,stP s<=stW s
 | .mk _ s e t f=>by rw [stP,stW];have:=Lr t;have:=Lr f;omega
theorem Lr:∀l:List V7,U2 l<=Dn l
 | []=>by rw [U2,Dn];exact q9 _
 | s::l=>by rw [U2,Dn];have:=akv s;have:=Lr l;omega
end
theorem Va {l:List V7}(h:wS 26 l 600<=600):U2 l<=600∧au l<=26∧Dn l<=600:=by obtain⟨b,a⟩:=Yb 26 l 600 (by omega) (by omega) h;have:=Lr l;exact⟨by omega,a,by omega⟩
set_option maxHeartbeats 8000000
def C67 (n fu d:Nat):Prop:=∀(m:Mem) (row:List d9) (e:Ex) (most:Int) (dp:Nat),m.Ok->m.lim<=m.nx->R7 m (λ_=>True) e row->gM e<=2000000->0<=most->most<=600->dp+d=27->
 ∃m',l7 KW fu n (.func 12) [.agg row,iV most,iV (dp:Int)] m=some [⟨iV (wX d e most),m'⟩]∧Ext m m'
theorem abb {n fu d dp:Nat}(O:dp+d=26)(u:C67 n fu d){most:Int}(T:most<=600){m:Mem}{p:Nat}(hm:m.Ok)(hp:p<m.nx)(Q:m.lim<=m.nx){R:List d9}{k0 n0:Int}{s0:List UInt8}{v:d9}{rows:List (List d9)}(F:m.get p=some (l9 (r4 k0 n0 s0 v)))(a:List Ex)(s:eD m (λ_=>True) 4 v rows)(D:A9 m (λ_=>True) a rows)(V:T9 a<=2000000):
  ∀(j i:Nat),i+j=a.length->∀(x:Int) (c:d9) (M:Mem) (N:Nat),Ext m M->0<=x->x<=601->most-x+2<=(N:Int)->1<=N->
  ∃i' c' M',C8 (λenv m k=>Jp (l7 KW fu n) fu none env m k) N (UU (.agg R) (iV (dp:Int)) ff (iV most) (iV (i:Int)) (.ptr p 0) (iV x) c (iV 0)) M [] =
   some [⟨.exit 0,(UU (.agg R) (iV (dp:Int)) ff (iV most) (iV i') (.ptr p 0) (.int .i64 (fC (wX d) (a.drop i) x most)) c' (iV 0)),M',[],none⟩]∧Ext m M':=by
 have o:=A9.len D;have b:=s.slice.len;rw [o] at b;have S:=K8 a;have cv:=s.slice.cells;have ov:=s.slice.u7;intro j;induction j with
 | zero=>
  intro i P x c M N E B C L z;obtain⟨N,rfl⟩:∃k,N=k+1:=⟨N-1,by omega⟩;obtain rfl:i=a.length:=by omega
  have f:=(E.old p hp).trans F;refine⟨(a.length:Int),.bool false,M,?_,E⟩;rw [o7,aaJ,fC];simp [Jp,f,b]
 | succ j ih=>
  intro i P x c M N E B C L z;obtain⟨N,rfl⟩:∃k,N=k+1:=⟨N-1,by omega⟩;have e:i<a.length:=by omega
  have g:i<rows.length:=by omega
  have h:(i:Int)<(a.length:Int):=by omega
  have K:=E.ok;have w:M.lim<=M.nx:=by rw [E.lim];exact aA Q E.nx
  have f:=(E.old p hp).trans F;have A:a.drop i=a[i]::a.drop (i+1):=Xd e;rw [A,fC];by_cases hx:x<=most;obtain⟨Y,o1,G,a2,a3,H,a5⟩:=(s.slice.ext E).at g;have l:=A9.get D i e g;have W:=l.row;have r:=H 0 4 (by omega) (by omega);rw [q8,W9 (by omega),Y1] at r;have U:=aV a i e;have q:R7 M (λ_=>True) a[i] rows[i]:=FX E l;generalize hX:a[i]=X at *;generalize hR:rows[i]=R1 at *;obtain⟨Z,I,E2⟩:=u M R1 X (most-x) (dp+1) K w q (by omega) (by omega) (by omega) (by omega);have hw:=Ga d X (most-x) (by omega);generalize wX d X (most-x)=y at *;obtain⟨i',c',M',J,q1⟩:=ih (i+1) (by omega) (x+y) tt Z N (E.trans E2) (by omega) (by omega) (by omega) (by omega);refine⟨i',c',M',?_,q1⟩;rw [if_pos hx];have w1:iP (most-x)=most-x:=K6 (by omega) (by omega);have w2:iP ((dp:Int)+1)=(dp:Int)+1:=K6 (by omega) (by omega);have w3:iP (x+y)=x+y:=K6 (by omega) (by omega);have t:l7 KW fu n (.func 12) [.agg R1,iV (most-x),.int .i64 ((dp:Int)+1)] M=_:=I;rw [o7,← J];simp [Jp,f,b,e,h,hx,G,r,t,w1,w2,w3,L6 (i:=i) (by omega)];refine⟨(i:Int),.bool false,M,?_,E⟩;rw [if_neg hx,o7];simp [Jp,f,b,e,h,hx]
theorem afd (fu:Nat)(J:20000<=fu):∀d n:Nat,d<=27->d+1<=n->C67 n fu d:=by
 intro d;induction d with
 | zero=>
  intro n I L m C e most dp q u h F H t z;obtain⟨n,rfl⟩:∃k,n=k+1:=⟨n-1,by omega⟩;obtain rfl:dp=27:=by omega
  obtain⟨j,l,o,a⟩:=e;obtain⟨v,s,rfl,b,D⟩:=h;have B:=b.slice.u7;have w:=b.slice.cells;have N:iP (most+1)=most+1:=K6 (by omega) (by omega);refine⟨ext m [l9 (r4 j l o v)],?_,G6 q _⟩;rw [enter (sf:=f12) rfl rfl];simp [f12,P6 q u,u7,wX,N,B,w]
 | succ d ih=>
  intro n I L m C e most dp q u h F H A z;obtain⟨n,rfl⟩:∃k,n=k+1:=⟨n-1,by omega⟩;obtain⟨j,l,o,a⟩:=e;obtain⟨v,s,rfl,t,D⟩:=h;have B:=t.slice.u7;have w:=t.slice.cells;rw [gM] at F;have E:=G6 q [l9 (r4 j l o v)];have b:=eD.mono (m':=ext m [l9 (r4 j l o v)]) t E.nx (λi K _=>E.old i K) (S':=λ_=>True) λ_ _ h=>h;have y:=yH E D;obtain⟨P,O,M',g,M⟩:=abb (n:=n) (d:=d) (dp:=dp) (p:=m.nx) (R:=(r4 j l o v)) (most:=most) (by omega) (ih n (by omega) (by omega)) A E.ok (by simp) (by rw [E.lim];exact aA u E.nx) (by rw [r9 q];rfl) a b y (by omega) a.length 0 (by omega) 1 .undef (_) fu (Ext.refl E.ok) (by omega) (by omega) (by omega) (by omega);have G:C8 (λx m k=>Jp (l7 KW fu n) fu none x m k) fu (UU (.agg (r4 j l o v)) (iV (dp:Int)) ff (iV most) (iV 0) (.ptr m.nx 0) (iV 1) .undef (iV 0)) (ext m [l9 (r4 j l o v)]) []=_:=g;refine⟨M',?_,E.trans M⟩;have r:decide (26<(dp:Int))=false:=decide_eq_false (by omega);have c:¬ (26<(dp:Int)):=by omega
  have f:¬ (26<dp):=by omega
  rw [enter (sf:=f12) rfl rfl,wX,FZ];simp [f12,P6 q u,u7,G,B,w,r,c,f]
theorem Vb {n fu d dp:Nat}(Y:dp+d=26)(z:C67 n fu d){most:Int}(a6:most<=600){m:Mem}(hm:m.Ok)(Z:m.lim<=m.nx){v:d9}{rows:List (List d9)}(I:eD m (λ_=>True) 5 v rows){i:Nat}(K:i<rows.length)
  {k0:Int} {s0:List UInt8} {L vt vf:d9} (J:rows[i]=(r5 k0 s0 L vt vf)) {t:List (List d9)} (a:List Ex) (g1:eD m (λ_=>True) 4 L t) (H:A9 m (λ_=>True) a t) (a8:T9 a<=2000000) (G:d9):
  ∀(j q:Nat),q+j=a.length->∀(x:Int) (c:d9) (M:Mem) (N:Nat),Ext m M->0<=x->most-x+2<=(N:Int)->1<=N->
  ∃k' c' M',C8 (λenv m k=>Jq (l7 KW fu n) fu none env m k) N (yG (iV (dp:Int)) ff (iV most) (iV (i:Int)) v (iV x) G (iV (q:Int)) c (iV 0)) M [] =
   some [⟨.exit 2,(yG (iV (dp:Int)) ff (iV most) (iV (i:Int)) v (.int .i64 (fC (wX d) (a.drop q) x most)) G k' c' (iV 0)),M',[],none⟩]∧Ext m M':=by
 have o:=A9.len H;have b:=g1.slice.len;rw [o] at b;have a0:=K8 a;intro j;induction j with
 | zero=>
  intro q hq x c M N E D W B;obtain⟨N,rfl⟩:∃k,N=k+1:=⟨N-1,by omega⟩;obtain rfl:q=a.length:=by omega
  obtain⟨F,o1,u,O,P,Q,r⟩:=(I.slice.ext E).at K;rw [J] at r;have f:=r 2 (by omega);refine⟨iV (a.length:Int),.bool false,M,?_,E⟩;rw [o7,aaJ,fC];simp [Jq,u,f,b]
 | succ j ih=>
  intro q hq x c M N E D W B;obtain⟨N,rfl⟩:∃k,N=k+1:=⟨N-1,by omega⟩;have e:q<a.length:=by omega
  have g:q<t.length:=by omega
  have h:(q:Int)<(a.length:Int):=by omega
  have V:=E.ok;have A:M.lim<=M.nx:=by rw [E.lim];exact aA Z E.nx
  obtain⟨F,o1,u,O,P,Q,r⟩:=(I.slice.ext E).at K;rw [J] at r;have f:=r 2 (by omega);have C:a.drop q=a[q]::a.drop (q+1):=Xd e;rw [C,fC];by_cases hx:x<=most;obtain⟨a9,o2,R,b2,b3,S,b5⟩:=(g1.slice.ext E).at g;have l:=A9.get H q e g;have s:=S 0 4 (by omega) (by omega);rw [q8,W9 (by have:=l.row;omega),Y1] at s;have a7:=aV a q e;have p:R7 M (λ_=>True) a[q] t[q]:=FX E l;generalize hX:a[q]=X at *;generalize hR1:t[q]=R1 at *;obtain⟨m2,T,E2⟩:=z M R1 X (most-x) (dp+1) V A p (by omega) (by omega) (by omega) (by omega);have hw:=Ga d X (most-x) (by omega);generalize wX d X (most-x)=y at *;obtain⟨k',c',M',U,q1⟩:=ih (q+1) (by omega) (x+y) tt m2 N (E.trans E2) (by omega) (by omega) (by omega);refine⟨k',c',M',?_,q1⟩;rw [if_pos hx];have w1:iP (most-x)=most-x:=K6 (by omega) (by omega);have w2:iP ((dp:Int)+1)=(dp:Int)+1:=K6 (by omega) (by omega);have w3:iP (x+y)=x+y:=K6 (by omega) (by omega);have w:l7 KW fu n (.func 12) [.agg R1,iV (most-x),.int .i64 ((dp:Int)+1)] M=_:=T;rw [o7,← U];simp [Jq,u,f,b,e,h,hx,R,s,w,w1,w2,w3,L6 (i:=q) (by omega)];refine⟨iV (q:Int),.bool false,M,?_,E⟩;rw [if_neg hx,o7];simp [Jq,u,f,b,e,h,hx]
theorem sZ (n:Nat)(s:By):bR (n+1) (.str s) (.str s)=true:=by show strEq s s=true;rw [iB];simp
theorem bF {m:Mem}{rs:Nat}{v:d9}{l:List (List d9)}(h:dW m rs v l)(n:Nat):bR (n+1) v v=true:=by rcases h with⟨rfl,_⟩ | ⟨id,o,⟨c,rfl,_⟩ | rfl,_⟩;rfl;show bi (Nat.beq id id) (bi (Nat.beq _ _) (bi (Nat.beq _ _) (Nat.beq _ _) false) false) false=true;simp [lK];show bi (Nat.beq id id) (bi (Nat.beq _ _) (bi (Nat.beq _ _) (Nat.beq _ _) false) false) false=true;simp [lK]
theorem afe {n:Nat}(h:n<=9000000000):DW .i64 (n:Int) 100=some (.int .i64 ((n / 100:Nat):Int)):=by show some (d9.int .i64 (iP ((n / 100:Nat):Int)))=_;rw [K6 (by omega) (by omega)]
def C32 (n fu d:Nat):Prop:=∀(m:Mem) (v:d9) (l:List V7) (most:Int) (dp:Nat),m.Ok->m.lim<=m.nx->O4 m (λ_=>True) l v->U2 l<=2000000->uj l<=4000000000->0<=most->most<=600->dp+d=27->
 ∃m',l7 KW fu n (.func 17) [v,iV most,iV (dp:Int)] m=some [⟨iV (wS d l most),m'⟩]∧Ext m m'
theorem OI:∀(l:List V7) (i:Nat) (h:i<l.length),vC l[i]<=uj l
 | e::l,0,h=>by simp [uj]
 | e::l,i+1,h=>by have:=OI l i (by simpa using h);simp [uj];omega
theorem abd {n fu d dp:Nat}(a6:20000<=fu)(Q:dp+d=26)(J:C67 n fu d)(A:C32 n fu d){most:Int}(S:most<=600){m:Mem}(hm:m.Ok)(R:m.lim<=m.nx){v:d9}{rows:List (List d9)}(l:List V7)(w:eD m (λ_=>True) 5 v rows)(h2:H6 m (λ_=>True) l rows)(a9:U2 l<=2000000)(a0:uj l<=4000000000):
  ∀(j i:Nat),i+j=l.length->∀(x:Int) (c6 k c8:d9) (M:Mem) (N:Nat),Ext m M->0<=x->most-x+2<=(N:Int)->1<=N->
  ∃i' c6' k' c8' M',C8 (λenv m k=>Jr (l7 KW fu n) fu none env m k) N (yG (iV (dp:Int)) ff (iV most) (iV (i:Int)) v (iV x) c6 k c8 (iV 0)) M [] =
   some [⟨.exit 0,(yG (iV (dp:Int)) ff (iV most) (iV i') v (.int .i64 (UZ (wS d) (wX d) (l.drop i) x most)) c6' k' c8' (iV 0)),M',[],none⟩]∧Ext m M':=by
 have p:=H6.len h2;have b:=w.slice.len;rw [p] at b;have a8:=U0 l;intro j;induction j with
 | zero=>
  intro i hi x c6 k c8 M N E U hN L;obtain⟨N,rfl⟩:∃k,N=k+1:=⟨N-1,by omega⟩;obtain rfl:i=l.length:=by omega
  refine⟨(l.length:Int),.bool false,k,c8,M,?_,E⟩;rw [o7,aaJ,UZ];simp [Jr,b]
 | succ j ih=>
  intro i hi x c6 k c8 M N E U hN L;obtain⟨N,rfl⟩:∃k,N=k+1:=⟨N-1,by omega⟩;have c:i<l.length:=by omega
  have a:i<rows.length:=by omega
  have h:(i:Int)<(l.length:Int):=by omega
  have hM:=E.ok;have K:M.lim<=M.nx:=by rw [E.lim];exact aA R E.nx
  have P:l.drop i=l[i]::l.drop (i+1):=Xd c;rw [P,UZ];by_cases hx:x<=most;rw [if_pos hx];have B:=H6.get h2 i c a;have T:=jf l i c;have O:=OI l i c;generalize hX:l[i]=X at *;obtain⟨k0,F,e,t,f⟩:=X;obtain⟨ve,vt,vf,re,rt,rf,D,e1,e2,t1,t2,Z,f2⟩:=B;rw [stP] at T;rw [vC] at O;have tM:O4 M (λ_=>True) t vt:=O4.ext ⟨rt,t1,t2⟩ E;obtain⟨W,g2,E2⟩:=A M vt t (most-x) (dp+1) hM K tM (by omega) (by omega) (by omega) (by omega) (by omega);have E2':=E.trans E2;have fM:O4 W (λ_=>True) f vf:=O4.ext ⟨rf,Z,f2⟩ E2';obtain⟨m3,g3,E3⟩:=A W vf f (most-x) (dp+1) E2.ok (by rw [E2'.lim];exact aA R E2'.nx) fM (by omega) (by omega) (by omega) (by omega) (by omega);have E3':=E2'.trans E3;have ht:=JE d t (most-x) (by omega) (by omega);have hf:=JE d f (most-x) (by omega) (by omega);simp only [stN,stE,stT,stF];generalize wS d t (most-x)=y at *;generalize wS d f (most-x)=z at *;have hq:F.length / 100<=F.length:=ak4 _ _;have qq:=afe (n:=F.length) (by omega);generalize F.length / 100=q0 at *;obtain⟨k',c',M4,g4,E4⟩:=Vb (n:=n) (fu:=fu) (d:=d) (dp:=dp) Q J S hm R w a D e e1 e2 (by omega) tt e.length 0 (by omega) (x+1+(q0:Int)+y+z) c8 m3 fu E3' (by omega) (by omega) (by omega);have a7:=BD d e (x+1+(q0:Int)+y+z) most;rw [q8] at g4;generalize fC (wX d) e (x+1+(q0:Int)+y+z) most=r at *;obtain⟨i',c6',V,c8',M',gg,q1⟩:=ih (i+1) (by omega) r tt k' c' M4 N E4 (by omega) (by omega) (by omega);refine⟨i',c6',V,c8',M',?_,q1⟩;obtain⟨aa,o1,Y,a2,a3,a4,C⟩:=(w.slice.ext E).at a;rw [D] at C;have b3:=C 3 (by omega);obtain⟨ab,o2,q,_,_,_,o⟩:=(w.slice.ext E2').at a;rw [D] at o;have b4:=o 4 (by omega);obtain⟨ac,o3,g,_,_,_,u⟩:=(w.slice.ext E3').at a;rw [D] at u;have b1:=u 1 (by omega);rw [Y] at q g;cases q;cases g;have d1:=C 1 (by omega);have d4:=C 4 (by omega);have d2:=o 1 (by omega)
  have ss:∀s:List UInt8,bR 100 (.str s) (.str s)=true:=λs=>sZ 99 s;have sf:bR 100 vf vf=true:=bF Z.slice 99;have w1:iP (most-x)=most-x:=K6 (by omega) (by omega);have w2:iP ((dp:Int)+1)=(dp:Int)+1:=K6 (by omega) (by omega);have w3:iP (x+1)=x+1:=K6 (by omega) (by omega);have w4:iP (x+1+(q0:Int))=x+1+(q0:Int):=K6 (by omega) (by omega);have w5:iP (x+1+(q0:Int)+y)=x+1+(q0:Int)+y:=K6 (by omega) (by omega);have w6:iP (x+1+(q0:Int)+y+z)=x+1+(q0:Int)+y+z:=K6 (by omega) (by omega);have G:l7 KW fu n (.func 17) [vt,iV (most-x),.int .i64 ((dp:Int)+1)] M=_:=g2;have H:l7 KW fu n (.func 17) [vf,iV (most-x),.int .i64 ((dp:Int)+1)] W=_:=g3;have I:C8 (λenv m k=>Jq (l7 KW fu n) fu none env m k) fu (yG (iV (dp:Int)) ff (iV most) (iV (i:Int)) v (.int .i64 (x+1+(q0:Int)+y+z)) tt (iV 0) c8 (iV 0)) m3 []=_:=g4;rw [o7,← gg];simp [Jr,b,c,h,hx,Y,b3,b4,b1,G,H,I,w1,w2,w3,w4,w5,w6,d1,d2,d4,ss,sf,qq,L6 (i:=i) (by omega)];refine⟨(i:Int),.bool false,k,c8,M,?_,E⟩;rw [if_neg hx,o7];simp [Jr,b,c,h,hx]
theorem aff (fu:Nat)(e:20000<=fu):∀d n:Nat,d<=27->d+1<=n->C32 n fu d:=by
 intro d;induction d with
 | zero=>
  intro n z A m v l most dp c f h r q x p j;obtain⟨n,rfl⟩:∃k,n=k+1:=⟨n-1,by omega⟩;obtain rfl:dp=27:=by omega
  have C:iP (most+1)=most+1:=K6 (by omega) (by omega);refine⟨m,?_,Ext.refl c⟩;rw [enter (sf:=f17) rfl rfl];simp [f17,P6 c f,u7,wS,C]
 | succ d ih=>
  intro n z A m v l most dp c f h r q x o j;obtain⟨n,rfl⟩:∃k,n=k+1:=⟨n-1,by omega⟩;obtain⟨s,p,y⟩:=h;obtain⟨D,t,E,u,M',g,B⟩:=abd (n:=n) (d:=d) (dp:=dp) (most:=most) e (by omega) (afd fu e d n (by omega) (by omega)) (ih n (by omega) (by omega)) o c f l p y r q l.length 0 (by omega) 0 .undef .undef .undef m fu (Ext.refl c) (by omega) (by omega) (by omega);have w:C8 (λi m k=>Jr (l7 KW fu n) fu none i m k) fu (yG (iV (dp:Int)) ff (iV most) (iV 0) v (iV 0) .undef .undef .undef (iV 0)) m []=_:=g;refine⟨M',?_,B⟩;have a:¬ (26<(dp:Int)):=by omega
  have b:¬ (26<dp):=by omega
  rw [enter (sf:=f17) rfl rfl,wS];simp [f17,P6 c f,u7,w,a,b]
theorem akw {n fu:Nat}(p:28<=n)(e:20000<=fu){m:Mem}(c:m.Ok)(f:m.lim<=m.nx){v:d9}{l:List V7}(h:O4 m (λ_=>True) l v)(hp:U2 l<=2000000)(hb:uj l<=4000000000):
  ∃m',l7 KW fu (n+1) (.func 6) [v] m=some [⟨.bool (decide (l.length<=520)&&decide (wS 26 l 600<=600)),m'⟩]∧Ext m m':=by
 obtain⟨o,i,E1⟩:=aff fu e 26 n (by omega) (by omega) m v l 600 1 c f h hp hb (by omega) (by omega) (by omega);have d:l7 KW fu n (.func 17) [v,iV 600,iV 1] m=_:=i;obtain⟨g,j,k⟩:=h;have a:=j.slice.len;rw [H6.len k] at a;by_cases h5:l.length<=520;refine⟨o,?_,E1⟩;have b:(l.length:Int)<=520:=by omega
 rw [enter (sf:=f6) rfl rfl];simp [f6,P6 c f,u7,a,h5,b,d];refine⟨m,?_,Ext.refl c⟩;have b:¬ (l.length:Int)<=520:=by omega
 rw [enter (sf:=f6) rfl rfl];simp [f6,P6 c f,u7,a,h5,b]
def Ai (s:By):Bool:=!s.isEmpty&&decide (s.length<=16)&&sW (s.headD 0)&&s.all GH && !Dm s
theorem Yc {m:Mem}(a:m.Ok)(s:By)(n fu:Nat)(b:2000<=fu):∃m',l7 KW fu (n+2) (.func 130) [.str s] m=some [⟨.bool (Dm s),m'⟩]∧Ext m m':=by
 have E:=G6 a [.cells 1 8 (T.ofList ((strs SF).map ([·])))];have c:dV (ext m [.cells 1 8 (T.ofList ((strs SF).map ([·])))]) (.slice m.nx 0 8 8) (strs SF):=Lh a (strs SF);have g:=QJ (s:=s) SF (by decide) c n fu (by omega);have e:(SF.any λt=>decide (s=t))=Dm s:=by unfold Dm;rw [List.contains_eq_any_beq];congr 1;funext t;rw [ada];simp
 rw [e] at g;refine⟨_,?_,E⟩;rw [enter (sf:=f130) rfl rfl];simp [f130,G9,H9,bs8,g]
theorem abe {n fu:Nat}{m:Mem}(s:By)(hs:s.length<=16):
  ∀(j i:Nat),i+j=s.length->∀(c d:d9) (N:Nat),j+1<=N->
  ((s.drop i).all GH=true∧∃c' d',C8 (λenv m k=>rH (l7 KW fu (n+1)) fu none env m k) N (Dl (.str s) ff (iV (i:Int)) c d ff) m []=some [⟨.exit 0,(Dl (.str s) ff (iV (s.length:Int)) c' d' ff),m,[],none⟩])∨
  ((s.drop i).all GH=false∧∃(i':Int) (c' d':d9),C8 (λenv m k=>rH (l7 KW fu (n+1)) fu none env m k) N (Dl (.str s) ff (iV (i:Int)) c d ff) m []=some [⟨.ret,(Dl (.str s) ff (iV i') c' d' ff),m,[],none⟩]):=by
 intro j;induction j with
 | zero=>
  intro i v c d N t;obtain⟨N,rfl⟩:∃k,N=k+1:=⟨N-1,by omega⟩;obtain rfl:i=s.length:=by omega
  refine .inl ⟨by simp,.bool false,d,?_⟩;rw [o7];simp [rH]
 | succ j ih=>
  intro i v c d N t;obtain⟨N,rfl⟩:∃k,N=k+1:=⟨N-1,by omega⟩;have a:i<s.length:=by omega
  have b:(i:Int)<(s.length:Int):=by omega
  have q:=λx lo ls env w r=>FL (x:=x) (lo:=lo) (ls:=ls) (env:=env) (s:=s) (l:=i) w r a;have u:s.drop i=s[i]::s.drop (i+1):=Xd a;have o:=λm=>Sw s[i] n fu m;have p:=λm=>aaV s[i] n fu m;rw [u,aiY];by_cases h1:sW s[i]=true;have g:=ih (i+1) (by omega) tt ff N (by omega);have e:C8 (λenv m k=>rH (l7 KW fu (n+1)) fu none env m k) (N+1) (Dl (.str s) ff (iV (i:Int)) c d ff) m []=C8 (λenv m k=>rH (l7 KW fu (n+1)) fu none env m k) N (Dl (.str s) ff (.int .i64 ((i+1:Nat):Int)) tt ff ff) m []:=by rw [o7];simp [rH,a,b,q,o,p,h1,L6 (i:=i) (by omega)]
  rw [e];simpa [GH,h1] using g;have f:sW s[i]=false:=by simpa using h1
  by_cases h2:Bz s[i]=true;have g:=ih (i+1) (by omega) tt ff N (by omega);have e:C8 (λenv m k=>rH (l7 KW fu (n+1)) fu none env m k) (N+1) (Dl (.str s) ff (iV (i:Int)) c d ff) m []=C8 (λenv m k=>rH (l7 KW fu (n+1)) fu none env m k) N (Dl (.str s) ff (.int .i64 ((i+1:Nat):Int)) tt ff ff) m []:=by rw [o7];simp [rH,a,b,q,o,p,f,h2,L6 (i:=i) (by omega)]
  rw [e];simpa [GH,f,h2] using g;have h:Bz s[i]=false:=by simpa using h2
  refine .inr ⟨by simp [GH,f,h],(i:Int),.bool true,.bool true,?_⟩;rw [o7];simp [rH,a,b,q,o,p,f,h]
theorem QU {n fu:Nat}(w:20000<=fu){m:Mem}(i:m.Ok)(s:By):∃m',l7 KW fu (n+3) (.func 74) [.str s] m=some [⟨.bool (Ai s),m'⟩]∧Ext m m':=by
 match s with
 | []=>refine⟨m,?_,Ext.refl i⟩;rw [enter (sf:=f74) rfl rfl];simp [f74,Ai]
 | b::t=>
  have f:¬ (((b::t).length:Nat):Int)=0:=by simp;omega
  have o:∀(x v:OF) (j:List d9) (a:T d9),x j a=.str (b::t)->v j a=.int .i64 0->uy x v j a=some (.int .u8 (b.toNat:Nat)):=λx v j a y r=>FL (s:=b::t) (l:=0) y r (by simp);have e:=λm=>Sw b (n+1) fu m;have d:¬ (b::t)=[]:=by simp
  obtain⟨z,h,E1⟩:=Yc i (b::t) n fu (by omega);have u:Ai (b::t)=(decide ((b::t).length<=16)&&sW b&&(b::t).all GH && !Dm (b::t)):=by simp [Ai]
  rw [u];generalize hS:b::t=S0 at *;by_cases h16:S0.length<=16;have c:¬ (16:Int)<(S0.length:Int):=by omega
  by_cases hb:sW b=true;rcases abe (n:=n+1) (fu:=fu) (m:=m) S0 h16 S0.length 0 (by omega) .undef .undef fu (by omega) with⟨ha,c',d',g⟩ | ⟨ha,i',c',d',g⟩;have p:C8 (λa m k=>rH (l7 KW fu (n+2)) fu none a m k) fu (Dl (.str S0) ff (iV 0) .undef .undef ff) m []=_:=g;rw [q8] at ha;refine⟨z,?_,E1⟩;rw [enter (sf:=f74) rfl rfl];simp [f74,f,d,h16,c,o,e,hb,p,h,ha];have p:C8 (λa m k=>rH (l7 KW fu (n+2)) fu none a m k) fu (Dl (.str S0) ff (iV 0) .undef .undef ff) m []=_:=g;rw [q8] at ha;refine⟨m,?_,Ext.refl i⟩;rw [enter (sf:=f74) rfl rfl];simp [f74,f,d,h16,c,o,e,hb,p,ha];have q:sW b=false:=by simpa using hb
  refine⟨m,?_,Ext.refl i⟩;rw [enter (sf:=f74) rfl rfl];simp [f74,f,d,h16,c,o,e,q];have c:(16:Int)<(S0.length:Int):=by omega
  refine⟨m,?_,Ext.refl i⟩;rw [enter (sf:=f74) rfl rfl];simp [f74,f,d,h16,c,o,e]
theorem abf (b:UInt8)(hb:b.toNat<128)(n fu:Nat)(m:Mem):l7 KW fu (n+2) (.func 110) [.int .i32 (b.toNat:Nat)] m=some [⟨.bool (!GH b),m⟩]:=by
 have d:=λm=>XM b n fu m;have e:=λm=>aeX b n fu m;have f:¬ (127:Int)<(b.toNat:Int):=by omega
 have g:¬ 127<b.toNat:=by omega
 have c:lY .u8 ((b.toNat:Nat):Int)=((b.toNat:Nat):Int):=by show ((b.toNat:Nat):Int)%256=_;omega
 rw [enter (sf:=f110) rfl rfl];by_cases hl:sW b=true;simp [f110,f,g,d,e,c,hl,GH];have a:sW b=false:=by simpa using hl
 cases hd:Bz b<;>simp [f110,f,g,d,e,c,a,hd,GH]
theorem abg (r:Nat)(c:128<=r)(n fu:Nat)(m:Mem):l7 KW fu (n+2) (.func 110) [.int .i32 (r:Nat)] m=some [⟨.bool true,m⟩]:=by
 have a:(127:Int)<(r:Int):=by omega
 have b:127<r:=by omega
 rw [enter (sf:=f110) rfl rfl];simp [f110,a,b]
theorem afg:oo ff tt=some false:=rfl
theorem afh:oo tt tt=some true:=rfl
theorem Yd {p:Nat}(s:By){n fu:Nat}:∀(j pos:Nat),pos<=s.length->s.length<=pos+j->∀(c t r d i:d9) (M:Mem) (N:Nat),M.Ok->M.lim<=p->p<M.nx->M.get p=some (.siter s pos)->j+1<=N->
  ((s.drop pos).all GH=true∧∃c' t' r' d' i' M',C8 (λenv m k=>ng (l7 KW fu (n+2)) fu none env m k) N (yG (.str s) (.ptr p 0) c t (.func (.func 110) [] []) r tt d i (iV 0)) M []=some [⟨.exit 0,(yG (.str s) (.ptr p 0) c' t' (.func (.func 110) [] []) r' tt d' i' (iV 0)),M',[],none⟩]∧Fr (p+1) p M M')∨
  ((s.drop pos).all GH=false∧∃(c' t' r' d':d9) (i':Nat) (M':Mem),C8 (λenv m k=>ng (l7 KW fu (n+2)) fu none env m k) N (yG (.str s) (.ptr p 0) c t (.func (.func 110) [] []) r tt d i (iV 0)) M []=some [⟨.ret,(yG (.str s) (.ptr p 0) c' t' (.func (.func 110) [] []) r' tt d' (iV (i':Int)) (iV (i':Int))),M',[],none⟩]∧Fr (p+1) p M M'):=by
 intro j;induction j with
 | zero=>
  intro pos C D c t r d i M N g v l y E;obtain⟨N,rfl⟩:∃k,N=k+1:=⟨N-1,by omega⟩;obtain rfl:pos=s.length:=by omega
  have f:=JA y v;refine .inl ⟨by simp,.bool false,.tuple [.bool false],r,d,i,M,?_,Fr.refl g⟩;rw [o7];simp [ng,f]
 | succ j ih=>
  intro pos C D c t r d i M N g v l y E;obtain⟨N,rfl⟩:∃k,N=k+1:=⟨N-1,by omega⟩;by_cases he:pos=s.length;subst he;have f:=JA y v;refine .inl ⟨by simp,.bool false,.tuple [.bool false],r,d,i,M,?_,Fr.refl g⟩;rw [o7];simp [ng,f];have h:pos<s.length:=by omega
  have f:=XO y v h;have q:s.drop pos=s[pos]::s.drop (pos+1):=Xd h;rcases Jz s pos h with⟨d1,d2⟩ | ⟨d1,d2,d3,d4,d5,d6⟩;rw [d2] at f;have b:(M.set p (.siter s (pos+1))).Ok:=Mem.Ok.set g l _;have z:(M.set p (.siter s (pos+1))).get p=some (.siter s (pos+1)):=I8 g _ l rfl;have a:Fr (p+1) p M (M.set p (.siter s (pos+1))):=⟨b,by simp,by simp,λi F A=>K5 g _ l A⟩;have o:=λm=>abf s[pos] d1 n fu m;rw [q,aiY];by_cases hb:GH s[pos]=true;rw [hb] at o;have B:=ih (pos+1) (by omega) (by omega) tt (.tuple [.bool true,iV (pos:Nat),.int .i32 ((s[pos]).toNat:Nat)]) (.int .i32 ((s[pos]).toNat:Nat)) ff (iV (pos:Nat)) _ N b (by simpa using v) (by simpa using l) z (by omega);have x:C8 (λenv m k=>ng (l7 KW fu (n+2)) fu none env m k) (N+1) (yG (.str s) (.ptr p 0) c t (.func (.func 110) [] []) r tt d i (iV 0)) M []=C8 (λenv m k=>ng (l7 KW fu (n+2)) fu none env m k) N (yG (.str s) (.ptr p 0) tt (.tuple [.bool true,iV (pos:Nat),.int .i32 ((s[pos]).toNat:Nat)]) (.func (.func 110) [] []) (.int .i32 ((s[pos]).toNat:Nat)) tt ff (iV (pos:Nat)) (iV 0)) (M.set p (.siter s (pos+1))) []:=by rw [o7];simp [ng,f,o,afg,afh]
  rw [x,hb,adL];rcases B with⟨q1,c',t',r',d',i',M',q2,q3⟩ | ⟨q1,c',t',r',d',i',M',q2,q3⟩;exact .inl ⟨q1,c',t',r',d',i',M',q2,a.trans q3⟩;exact .inr ⟨q1,c',t',r',d',i',M',q2,a.trans q3⟩;have e:GH s[pos]=false:=by simpa using hb
  rw [e] at o;refine .inr ⟨by simp [e],.bool true,.tuple [.bool true,iV (pos:Nat),.int .i32 ((s[pos]).toNat:Nat)],.int .i32 ((s[pos]).toNat:Nat),.bool true,pos,_,?_,a⟩;rw [o7];simp [ng,f,o,afg,afh];have b:(M.set p (.siter s (pos+(Utf8.decode ⟨s.toArray⟩ pos).2))).Ok:=Mem.Ok.set g l _;have a:Fr (p+1) p M (M.set p (.siter s (pos+(Utf8.decode ⟨s.toArray⟩ pos).2))):=⟨b,by simp,by simp,λi F A=>K5 g _ l A⟩;generalize (Utf8.decode ⟨s.toArray⟩ pos).2=w at *;generalize (Utf8.decode ⟨s.toArray⟩ pos).1=u at *;have o:=λm=>abg u d2 n fu m;have e:GH s[pos]=false:=by unfold GH sW Bz;rw [ad7,ahl,ahl];exact⟨.inr (decide_eq_false (by omega)),.inr (decide_eq_false (by omega))⟩
  refine .inr ⟨by rw [q,aiY,e];rfl,.bool true,.tuple [.bool true,iV (pos:Nat),.int .i32 (u:Nat)],.int .i32 (u:Nat),.bool true,pos,_,?_,a⟩;rw [o7];simp [ng,f,o,afg,afh]
theorem abh {m:Mem}(f:m.Ok)(t:m.lim<=m.nx)(s:By)(hs:s.length<=16)(n fu:Nat)(r:20000<=fu):
  ∃(i:Int) (M':Mem),l7 KW fu (n+3) (.func 200) [.str s,(.func (.func 110) [] []),.bool true] m=some [⟨iV i,M'⟩]∧Ext m M'∧(s.all GH=true->i=-1)∧(s.all GH=false->0<=i):=by
 have q:(m.new (.siter s 0)).Ok:=Mem.Ok.new f _;have o:∀j c b d x,x c b=.str s->Dq x j c b d=some [⟨.ptr d.nx 0,d.new (.siter s 0)⟩]:=λj c b d x u=>by show pJ (x c b) _=_;rw [u];rfl
 have l:∀M',Fr (m.nx+1) m.nx (m.new (.siter s 0)) M'->Ext m M':=λM' F=>by refine⟨F.ok,aA (by simp) F.nx,F.lim,λi v=>?_⟩;rw [F.old i (by omega) (by omega),Qw f _ (by omega)]
 have g:=Yd (p:=m.nx) s (n:=n) (fu:=fu) s.length 0 (by omega) (by omega) .undef .undef .undef .undef .undef (m.new (.siter s 0)) fu q (by simpa using t) (by simp) (KM f _ rfl) (by omega);rw [q8] at g;rcases g with⟨a,c',t',r',d',i',M',g,F⟩ | ⟨a,c',t',r',d',i',M',g,F⟩;have e:C8 (λb m k=>ng (l7 KW fu (n+2)) fu none b m k) fu (yG (.str s) (.ptr m.nx 0) .undef .undef (.func (.func 110) [] []) .undef tt .undef .undef (iV 0)) (m.new (.siter s 0)) []=_:=g;refine⟨-1,M',?_,l M' F,λ_=>rfl,λh=>by rw [a] at h;cases h⟩;rw [enter (sf:=f200) rfl rfl];simp [f200,o,e];have e:C8 (λb m k=>ng (l7 KW fu (n+2)) fu none b m k) fu (yG (.str s) (.ptr m.nx 0) .undef .undef (.func (.func 110) [] []) .undef tt .undef .undef (iV 0)) (m.new (.siter s 0)) []=_:=g;refine⟨(i':Int),M',?_,l M' F,(λh=>by rw [a] at h;cases h),λ_=>by omega⟩;rw [enter (sf:=f200) rfl rfl];simp [f200,o,e]
theorem Ls {n fu:Nat}(r:20000<=fu){m:Mem}(o:m.Ok)(A:m.lim<=m.nx)(s:By):∃m',l7 KW fu (n+5) (.func 65) [.str s] m=some [⟨.bool (Ai s),m'⟩]∧Ext m m':=by
 match s with
 | []=>refine⟨m,?_,Ext.refl o⟩;rw [enter (sf:=f65) rfl rfl];simp [f65,Ai,p9]
 | b::t=>
  have k:∀(x y:OF) (p:List d9) (f:T d9),x p f=.str (b::t)->y p f=.int .i64 0->uy x y p f=some (.int .u8 (b.toNat:Nat)):=λx y p f B v=>FL (s:=b::t) (l:=0) B v (by simp);have e:=λm=>XM b (n+3) fu m;have c:¬ (b::t)=[]:=by simp
  have w:Ai (b::t)=(decide ((b::t).length<=16)&&sW b&&(b::t).all GH && !Dm (b::t)):=by simp [Ai]
  rw [w];generalize hS:b::t=S0 at *;by_cases h16:S0.length<=16;have a:¬ (16:Int)<(S0.length:Int):=by omega
  by_cases hb:sW b=true;obtain⟨z,d,E1⟩:=ab9 o S0 (n+1) fu (by omega);by_cases hr:Dm S0=true;refine⟨z,?_,E1⟩;rw [enter (sf:=f65) rfl rfl];simp [f65,c,h16,a,k,e,hb,d,hr,p9];have j:Dm S0=false:=by simpa using hr
  obtain⟨i,M',h,E2,C,D⟩:=abh E1.ok (by rw [E1.lim];exact aA A E1.nx) S0 h16 n fu r;have g:l7 KW fu (n+4) (.func 109) [.str S0,(.func (.func 110) [] [])] z=some [⟨iV i,M'⟩]:=by rw [enter (sf:=f109) rfl rfl];simp [f109,h]
  refine⟨M',?_,E1.trans E2⟩;rw [enter (sf:=f65) rfl rfl];cases ha:S0.all GH;have u:¬ i<0:=by have:=D ha;omega
  simp [f65,c,h16,a,k,e,hb,d,j,g,u,p9];have u:i<0:=by have:=C ha;omega
  simp [f65,c,h16,a,k,e,hb,d,j,g,u,p9];have q:sW b=false:=by simpa using hb
  refine⟨m,?_,Ext.refl o⟩;rw [enter (sf:=f65) rfl rfl];simp [f65,c,h16,a,k,e,q,p9];have a:(16:Int)<(S0.length:Int):=by omega
  refine⟨m,?_,Ext.refl o⟩;rw [enter (sf:=f65) rfl rfl];simp [f65,c,h16,a,k,e,p9]
def aH (k:Int):Int:=if k=3 then -1 else if k=1∨k=2 then 0 else if k=4∨k=5 then 1 else if 6<=k∧k<=18 then 2 else -2
mutual
def cZ:Ex->Bool
 | .mk k n s a=>decide (aH k≠-2)&&(decide (aH k<0)||decide ((a.length:Int)=aH k)) &&
   (if k=1 then decide (0<=n)&&decide (n<=9007199254740992) else decide (n=0)) &&
   (if k=2∨k=3 then Ai s else decide (s=[]))&&Y0 a
def Y0:List Ex->Bool
 | []=>true
 | e::l=>cZ e&&Y0 l
end
theorem afi (k:Int)(n fu:Nat)(m:Mem):l7 KW fu (n+1) (.func 73) [iV k] m=some [⟨iV (aH k),m⟩]:=by rw [enter (sf:=f73) rfl rfl];unfold aH;by_cases h1:k=1;subst h1;simp [f73];by_cases h2:k=2;subst h2;simp [f73];by_cases h3:k=3;subst h3;simp [f73];by_cases h4:k=4;subst h4;simp [f73];by_cases h5:k=5;subst h5;simp [f73];by_cases h6:6<=k;by_cases h7:k<=18;simp [f73,h1,h2,h3,h4,h5,h6,h7];simp [f73,h1,h2,h3,h4,h5,h6,h7];simp [f73,h1,h2,h3,h4,h5,h6]
theorem afj (k:Int)(n fu:Nat)(m:Mem):l7 KW fu (n+1) (.func 64) [iV k] m=some [⟨iV (aH k),m⟩]:=by rw [enter (sf:=f64) rfl rfl];unfold aH;by_cases h1:k=1;subst h1;simp [f64];by_cases h2:k=2;subst h2;simp [f64];by_cases h3:k=3;subst h3;simp [f64];by_cases h4:k=4;subst h4;simp [f64];by_cases h5:k=5;subst h5;simp [f64];by_cases h6:6<=k;by_cases h7:k<=18;simp [f64,h1,h2,h3,h4,h5,h6,h7];simp [f64,h1,h2,h3,h4,h5,h6,h7];simp [f64,h1,h2,h3,h4,h5,h6]
def C79 (n fu d:Nat):Prop:=∀(m:Mem) (row:List d9) (e:Ex),m.Ok->m.lim<=m.nx->R7 m (λ_=>True) e row->gM e<=10000->dZ e<=d->
 ∃m',l7 KW fu n (.func 40) [.agg row] m=some [⟨.bool (cZ e),m'⟩]∧Ext m m'
theorem DN {n fu d:Nat}(x:C79 n fu d){m:Mem}{p:Nat}(hm:m.Ok)(hp:p<m.nx)(O:m.lim<=m.nx){R:List d9}{x2 x5:d9}{k0 n0:Int}{s0:List UInt8}{v:d9}{rows:List (List d9)}(G:m.get p=some (l9 (r4 k0 n0 s0 v)))(a:List Ex)(D:eD m (λ_=>True) 4 v rows)(F:A9 m (λ_=>True) a rows)(S:T9 a<=10000)(Z:V6 a<=d):
  ∀(j i:Nat),i+j=a.length->∀(c e:d9) (M:Mem) (N:Nat),Ext m M->j+1<=N->
  (Y0 (a.drop i)=true∧∃c' e' M',C8 (λenv m k=>nD (l7 KW fu n) fu none env m k) N (fT (.agg R) (.ptr p 0) x2 ff ff x5 ff (iV (i:Int)) c e ff) M []=some [⟨.exit 0,(fT (.agg R) (.ptr p 0) x2 ff ff x5 ff (iV (a.length:Int)) c' e' ff),M',[],none⟩]∧Ext m M')∨
  (Y0 (a.drop i)=false∧∃(i' c' e':d9) (M':Mem),C8 (λenv m k=>nD (l7 KW fu n) fu none env m k) N (fT (.agg R) (.ptr p 0) x2 ff ff x5 ff (iV (i:Int)) c e ff) M []=some [⟨.ret,(fT (.agg R) (.ptr p 0) x2 ff ff x5 ff i' c' e' ff),M',[],none⟩]∧Ext m M'):=by
 have r:=A9.len F;have b:=D.slice.len;rw [r] at b;have P:=K8 a;intro j;induction j with
 | zero=>
  intro i L c e M N E J;obtain⟨N,rfl⟩:∃k,N=k+1:=⟨N-1,by omega⟩;obtain rfl:i=a.length:=by omega
  have g:=(E.old p hp).trans G;refine .inl ⟨by simp [Y0],.bool false,e,M,?_,E⟩;rw [o7];simp [nD,g,b]
 | succ j ih=>
  intro i L c e M N E J;obtain⟨N,rfl⟩:∃k,N=k+1:=⟨N-1,by omega⟩;have f:i<a.length:=by omega
  have h:i<rows.length:=by omega
  have l:(i:Int)<(a.length:Int):=by omega
  have I:=E.ok;have y:M.lim<=M.nx:=by rw [E.lim];exact aA O E.nx
  have g:=(E.old p hp).trans G;have z:a.drop i=a[i]::a.drop (i+1):=Xd f;rw [z,Y0];obtain⟨U,o1,C,V,W,H,Y⟩:=(D.slice.ext E).at h;have o:=A9.get F i f h;have T:=o.row;have q:=H 0 4 (by omega) (by omega);rw [q8,W9 (by omega),Y1] at q;have Q:=aV a i f;have K:=bX a i f;have s:R7 M (λ_=>True) a[i] rows[i]:=FX E o;generalize hX:a[i]=X at *;generalize hR:rows[i]=R1 at *;obtain⟨B,w,E2⟩:=x M R1 X I y s (by omega) (by omega);by_cases hf:cZ X=true;rw [hf] at w;have A:=ih (i+1) (by omega) tt ff B N (E.trans E2) (by omega);have u:C8 (λenv m k=>nD (l7 KW fu n) fu none env m k) (N+1) (fT (.agg R) (.ptr p 0) x2 ff ff x5 ff (iV (i:Int)) c e ff) M []=C8 (λenv m k=>nD (l7 KW fu n) fu none env m k) N (fT (.agg R) (.ptr p 0) x2 ff ff x5 ff (.int .i64 ((i+1:Nat):Int)) tt ff ff) B []:=by rw [o7];simp [nD,g,b,f,l,C,q,w,L6 (i:=i) (by omega)]
  rw [u,hf,adL];exact A;have t:cZ X=false:=by simpa using hf
  rw [t] at w;refine .inr ⟨by rw [t];rfl,iV (i:Int),.bool true,.bool true,B,?_,E.trans E2⟩;rw [o7];simp [nD,g,b,f,l,C,q,w]
theorem afk (fu:Nat)(H:20000<=fu):∀d n:Nat,d+4<=n->C79 n fu d:=by
 intro d;induction d with
 | zero=>intro n hn m V e o r h X U;obtain⟨k0,n0,s0,a⟩:=e;rw [dZ] at U;omega
 | succ d ih=>
  intro n hn m V e o r h X U;obtain⟨n,rfl⟩:∃k,n=k+4:=⟨n-4,by omega⟩;obtain⟨k0,n0,s0,a⟩:=e;obtain⟨v,Z,rfl,I,W⟩:=h;have t:=I.slice.u7;have s:=I.slice.cells;have F:=A9.len W;have c:=I.slice.len;rw [F] at c;rw [gM] at X;rw [dZ] at U;have E:=G6 o [l9 (r4 k0 n0 s0 v)];have a0:=K8 a;have b:=λm=>afi k0 (n+2) fu m;by_cases c1:aH k0=-2;refine⟨_,?_,E⟩;rw [enter (sf:=f40) rfl rfl];simp [f40,P6 o r,u7,t,s,b,c1,cZ];by_cases G:0<=aH k0∧¬ (a.length:Int)=aH k0;obtain⟨G,C⟩:=G;have N:¬ aH k0<0:=by omega
  refine⟨_,?_,E⟩;rw [enter (sf:=f40) rfl rfl];simp [f40,P6 o r,u7,t,s,b,c1,G,N,C,c,cZ];have O:¬ (0<=aH k0∧¬ (a.length:Int)=aH k0):=G;have f:aH k0<0∨(a.length:Int)=aH k0:=by omega
  by_cases C:(k0=1∧(n0<0∨9007199254740992<n0))∨(¬ k0=1∧¬ n0=0);refine⟨_,?_,E⟩;rw [enter (sf:=f40) rfl rfl];rcases C with⟨C,c4⟩ | ⟨C,c4⟩;subst C;have l:a.length=0:=by simpa [aH] using f
  have T:a=[]:=aeN l;subst T;have x:aH 1=0:=rfl;by_cases c5:n0<0;have P:¬ 0<=n0:=by omega
  simp [f40,P6 o r,u7,t,s,b,x,c,cZ,c5,P];have P:0<=n0:=by omega
  have c7:9007199254740992<n0:=by omega
  have c8:¬ n0<=9007199254740992:=by omega
  simp [f40,P6 o r,u7,t,s,b,x,c,cZ,c5,P,c7,c8];rcases f with h | h;have Q:¬ 0<=aH k0:=by omega
  simp [f40,P6 o r,u7,t,s,b,c1,h,Q,c,cZ,C,c4];have Q:0<=aH k0:=by omega
  have S:¬ aH k0<0:=by omega
  simp [f40,P6 o r,u7,t,s,b,c1,← h,c,cZ,C,c4];have z:=eD.mono (m':=ext m [l9 (r4 k0 n0 s0 v)]) I E.nx (λi hi _=>E.old i hi) (S':=λ_=>True) λ_ _ h=>h;have A:=yH E W;clear G O;by_cases hk2:k0=2;subst hk2;have x:aH 2=0:=rfl;have y:n0=0:=by omega
  subst y;obtain⟨B,w,E1⟩:=QU (n:=n) H E.ok s0;have f:a.length=0:=by simpa [aH] using f
  by_cases hb:Ai s0=true
  skip
  rcases DN (p:=m.nx) (R:=(r4 2 0 s0 v)) (x2:=.int .i64 (0)) (x5:=.bool true) (k0:=2) (n0:=0) (s0:=s0) (ih (n+3) (by omega)) E.ok (by simp) (by rw [E.lim];exact aA r E.nx) (by rw [r9 o];rfl) a z A (by omega) (by omega) a.length 0 (by omega) .undef .undef B fu E1 (by omega) with⟨l,c',e',M',g,q⟩ | ⟨l,i',c',e',M',g,q⟩;have u:C8 (λj m k=>nD (l7 KW fu (n+3)) fu none j m k) fu ((.nd (.nd (.nd (.nd .e (iV 0) .e) ff .e) (.ptr m.nx 0) (.nd (.nd .e .undef .e) tt .e)) (.agg (r4 2 0 s0 v)) (.nd (.nd (.nd .e .undef .e) ff .e) (iV (0)) (.nd (.nd .e ff .e) ff .e)))) B []=_:=g;rw [q8] at l;refine⟨M',?_,E.trans q⟩;rw [enter (sf:=f40) rfl rfl];simp [f40,P6 o r,u7,t,s,b,x,f,c,cZ,w,hb,u,l];have u:C8 (λj m k=>nD (l7 KW fu (n+3)) fu none j m k) fu ((.nd (.nd (.nd (.nd .e (iV 0) .e) ff .e) (.ptr m.nx 0) (.nd (.nd .e .undef .e) tt .e)) (.agg (r4 2 0 s0 v)) (.nd (.nd (.nd .e .undef .e) ff .e) (iV (0)) (.nd (.nd .e ff .e) ff .e)))) B []=_:=g;rw [q8] at l;refine⟨M',?_,E.trans q⟩;rw [enter (sf:=f40) rfl rfl];simp [f40,P6 o r,u7,t,s,b,x,f,c,cZ,w,hb,u,l];have D:Ai s0=false:=by simpa using hb
  refine⟨B,?_,E.trans E1⟩;rw [enter (sf:=f40) rfl rfl];simp [f40,P6 o r,u7,t,s,b,x,f,c,cZ,w,D];by_cases hk3:k0=3;subst hk3;have x:aH 3=-1:=rfl;have y:n0=0:=by omega
  subst y;obtain⟨B,w,E1⟩:=QU (n:=n) H E.ok s0;clear f;have f:True:=trivial
  by_cases hb:Ai s0=true
  skip
  rcases DN (p:=m.nx) (R:=(r4 3 0 s0 v)) (x2:=.int .i64 (-1)) (x5:=.bool true) (k0:=3) (n0:=0) (s0:=s0) (ih (n+3) (by omega)) E.ok (by simp) (by rw [E.lim];exact aA r E.nx) (by rw [r9 o];rfl) a z A (by omega) (by omega) a.length 0 (by omega) .undef .undef B fu E1 (by omega) with⟨l,c',e',M',g,q⟩ | ⟨l,i',c',e',M',g,q⟩;have u:C8 (λj m k=>nD (l7 KW fu (n+3)) fu none j m k) fu ((.nd (.nd (.nd (.nd .e (iV 0) .e) ff .e) (.ptr m.nx 0) (.nd (.nd .e .undef .e) tt .e)) (.agg (r4 3 0 s0 v)) (.nd (.nd (.nd .e .undef .e) ff .e) (iV (-1)) (.nd (.nd .e ff .e) ff .e)))) B []=_:=g;rw [q8] at l;refine⟨M',?_,E.trans q⟩;rw [enter (sf:=f40) rfl rfl];simp [f40,P6 o r,u7,t,s,b,x,f,c,cZ,w,hb,u,l];have u:C8 (λj m k=>nD (l7 KW fu (n+3)) fu none j m k) fu ((.nd (.nd (.nd (.nd .e (iV 0) .e) ff .e) (.ptr m.nx 0) (.nd (.nd .e .undef .e) tt .e)) (.agg (r4 3 0 s0 v)) (.nd (.nd (.nd .e .undef .e) ff .e) (iV (-1)) (.nd (.nd .e ff .e) ff .e)))) B []=_:=g;rw [q8] at l;refine⟨M',?_,E.trans q⟩;rw [enter (sf:=f40) rfl rfl];simp [f40,P6 o r,u7,t,s,b,x,f,c,cZ,w,hb,u,l];have D:Ai s0=false:=by simpa using hb
  refine⟨B,?_,E.trans E1⟩;rw [enter (sf:=f40) rfl rfl];simp [f40,P6 o r,u7,t,s,b,x,f,c,cZ,w,D];by_cases hk1:k0=1;subst hk1;have x:aH 1=0:=rfl;have f:a.length=0:=by simpa [aH] using f
  have J:0<=n0:=by omega
  have K:¬ n0<0:=by omega
  have L:n0<=9007199254740992:=by omega
  have M:¬ 9007199254740992<n0:=by omega
  by_cases hs:s0=[];subst hs;rcases DN (p:=m.nx) (R:=(r4 1 n0 [] v)) (x2:=.int .i64 (0)) (x5:=.bool false) (k0:=1) (n0:=n0) (s0:=[]) (ih (n+3) (by omega)) E.ok (by simp) (by rw [E.lim];exact aA r E.nx) (by rw [r9 o];rfl) a z A (by omega) (by omega) a.length 0 (by omega) .undef .undef (ext m [l9 (r4 1 n0 [] v)]) fu (Ext.refl E.ok) (by omega) with⟨l,c',e',M',g,q⟩ | ⟨l,i',c',e',M',g,q⟩;have u:C8 (λj m k=>nD (l7 KW fu (n+3)) fu none j m k) fu ((.nd (.nd (.nd (.nd .e (iV 0) .e) ff .e) (.ptr m.nx 0) (.nd (.nd .e .undef .e) ff .e)) (.agg (r4 1 n0 [] v)) (.nd (.nd (.nd .e .undef .e) ff .e) (iV (0)) (.nd (.nd .e ff .e) ff .e)))) (ext m [l9 (r4 1 n0 [] v)]) []=_:=g;rw [q8] at l;refine⟨M',?_,E.trans q⟩;rw [enter (sf:=f40) rfl rfl];simp [f40,P6 o r,u7,t,s,b,c,cZ,p9,x,f,J,K,L,M,u,l];have u:C8 (λj m k=>nD (l7 KW fu (n+3)) fu none j m k) fu ((.nd (.nd (.nd (.nd .e (iV 0) .e) ff .e) (.ptr m.nx 0) (.nd (.nd .e .undef .e) ff .e)) (.agg (r4 1 n0 [] v)) (.nd (.nd (.nd .e .undef .e) ff .e) (iV (0)) (.nd (.nd .e ff .e) ff .e)))) (ext m [l9 (r4 1 n0 [] v)]) []=_:=g;rw [q8] at l;refine⟨M',?_,E.trans q⟩;rw [enter (sf:=f40) rfl rfl];simp [f40,P6 o r,u7,t,s,b,c,cZ,p9,x,f,J,K,L,M,u,l];refine⟨_,?_,E⟩;rw [enter (sf:=f40) rfl rfl];simp [f40,P6 o r,u7,t,s,b,c,cZ,p9,x,f,J,K,L,M,hs];have y:n0=0:=by omega
  subst y;have Y:0<aH k0:=by unfold aH at c1 ⊢;rw [if_neg hk3,if_neg (by omega)] at c1 ⊢;by_cases z1:k0=4∨k0=5;rw [if_pos z1];omega;rw [if_neg z1] at c1 ⊢;by_cases z2:6<=k0∧k0<=18;rw [if_pos z2];omega;rw [if_neg z2] at c1;exact absurd rfl c1
  have h:(a.length:Int)=aH k0:=by omega
  have Q:0<=aH k0:=by omega
  have S:¬ aH k0<0:=by omega
  by_cases hs:s0=[];subst hs;rcases DN (p:=m.nx) (R:=(r4 k0 0 [] v)) (x2:=.int .i64 (a.length:Int)) (x5:=.bool false) (k0:=k0) (n0:=0) (s0:=[]) (ih (n+3) (by omega)) E.ok (by simp) (by rw [E.lim];exact aA r E.nx) (by rw [r9 o];rfl) a z A (by omega) (by omega) a.length 0 (by omega) .undef .undef (ext m [l9 (r4 k0 0 [] v)]) fu (Ext.refl E.ok) (by omega) with⟨l,c',e',M',g,q⟩ | ⟨l,i',c',e',M',g,q⟩;have u:C8 (λj m k=>nD (l7 KW fu (n+3)) fu none j m k) fu ((.nd (.nd (.nd (.nd .e (iV 0) .e) ff .e) (.ptr m.nx 0) (.nd (.nd .e .undef .e) ff .e)) (.agg (r4 k0 0 [] v)) (.nd (.nd (.nd .e .undef .e) ff .e) (iV (a.length:Int)) (.nd (.nd .e ff .e) ff .e)))) (ext m [l9 (r4 k0 0 [] v)]) []=_:=g;rw [q8] at l;refine⟨M',?_,E.trans q⟩;rw [enter (sf:=f40) rfl rfl];simp [f40,P6 o r,u7,t,s,b,c,cZ,p9,c1,← h,hk1,hk2,hk3,u,l];have u:C8 (λj m k=>nD (l7 KW fu (n+3)) fu none j m k) fu ((.nd (.nd (.nd (.nd .e (iV 0) .e) ff .e) (.ptr m.nx 0) (.nd (.nd .e .undef .e) ff .e)) (.agg (r4 k0 0 [] v)) (.nd (.nd (.nd .e .undef .e) ff .e) (iV (a.length:Int)) (.nd (.nd .e ff .e) ff .e)))) (ext m [l9 (r4 k0 0 [] v)]) []=_:=g;rw [q8] at l;refine⟨M',?_,E.trans q⟩;rw [enter (sf:=f40) rfl rfl];simp [f40,P6 o r,u7,t,s,b,c,cZ,p9,c1,← h,hk1,hk2,hk3,u,l];refine⟨_,?_,E⟩;rw [enter (sf:=f40) rfl rfl];simp [f40,P6 o r,u7,t,s,b,c,cZ,p9,c1,← h,hk1,hk2,hk3,hs]
def Ye (n fu d:Nat):Prop:=∀(m:Mem) (row:List d9) (e:Ex),m.Ok->m.lim<=m.nx->R7 m (λ_=>True) e row->gM e<=10000->dZ e<=d->
 ∃m',l7 KW fu n (.func 29) [.agg row] m=some [⟨.bool (cZ e),m'⟩]∧Ext m m'
def CG (g:FuncId)(n fu d:Nat):Prop:=∀(m:Mem) (row:List d9) (e:Ex),m.Ok->m.lim<=m.nx->R7 m (λ_=>True) e row->gM e<=10000->dZ e<=d->
 ∃m',l7 KW fu n (.func g) [.agg row] m=some [⟨.bool (!cZ e),m'⟩]∧Ext m m'
theorem afl {n fu d:Nat}(b:Ye n fu d):CG 67 (n+1) fu d:=by
 intro m a e k j h o l;have p:=h.row;obtain⟨c,f⟩:=p;have E:=G6 k [l9 a];obtain⟨q,g,E1⟩:=b (ext m [l9 a]) a e E.ok (by rw [E.lim];exact aA j E.nx) (FX E h) o l;refine⟨q,?_,E.trans E1⟩;have i:Gw (some (l9 a)) 0 4=some (.agg a):=by rw [eU (by omega) (by omega),q8,W9 (by omega)]
 rw [enter (sf:=f67) rfl rfl];simp [f67,P6 k j,u7,c,f,i,g]
theorem wD {n fu d:Nat}(b:Ye n fu d):CG 136 (n+1) fu d:=by
 intro m a e k j h o l;have p:=h.row;obtain⟨c,f⟩:=p;have E:=G6 k [l9 a];obtain⟨q,g,E1⟩:=b (ext m [l9 a]) a e E.ok (by rw [E.lim];exact aA j E.nx) (FX E h) o l;refine⟨q,?_,E.trans E1⟩;have i:Gw (some (l9 a)) 0 4=some (.agg a):=by rw [eU (by omega) (by omega),q8,W9 (by omega)]
 rw [enter (sf:=f136) rfl rfl];simp [f136,P6 k j,u7,c,f,i,g]
theorem Yf {cl:FuncId}{n fu d:Nat}(G:CG cl (n+1) fu d){m:Mem}(U:m.Ok)(I:m.lim<=m.nx){v:d9}{rows:List (List d9)}(a:List Ex)(B:eD m (λ_=>True) 4 v rows)(z:A9 m (λ_=>True) a rows)(L:T9 a<=10000)(T:V6 a<=d):
  ∀(j i:Nat),i+j=a.length->∀(c k b:d9) (M:Mem) (N:Nat),Ext m M->j+1<=N->
  (Y0 (a.drop i)=true∧∃c' k' b' M',C8 (λenv m k=>fQ (l7 KW fu (n+1)) fu none env m k) N (qL v (iV (i:Int)) (iV (a.length:Int)) c (.func (.func cl) [] []) k b (iV 0)) M []=some [⟨.exit 0,(qL v (iV (a.length:Int)) (iV (a.length:Int)) c' (.func (.func cl) [] []) k' b' (iV 0)),M',[],none⟩]∧Ext m M')∨
  (Y0 (a.drop i)=false∧∃(i' c' k' b':d9) (r':Nat) (M':Mem),C8 (λenv m k=>fQ (l7 KW fu (n+1)) fu none env m k) N (qL v (iV (i:Int)) (iV (a.length:Int)) c (.func (.func cl) [] []) k b (iV 0)) M []=some [⟨.ret,(qL v i' (iV (a.length:Int)) c' (.func (.func cl) [] []) k' b' (iV (r':Int))),M',[],none⟩]∧Ext m M'):=by
 have u:=A9.len z;have J:=K8 a;intro j;induction j with
 | zero=>
  intro i H c k b M N E D;obtain⟨N,rfl⟩:∃k,N=k+1:=⟨N-1,by omega⟩;obtain rfl:i=a.length:=by omega
  refine .inl ⟨by simp [Y0],.bool false,k,b,M,?_,E⟩;rw [o7];simp [fQ]
 | succ j ih=>
  intro i H c k b M N E D;obtain⟨N,rfl⟩:∃k,N=k+1:=⟨N-1,by omega⟩;have e:i<a.length:=by omega
  have f:i<rows.length:=by omega
  have g:(i:Int)<(a.length:Int):=by omega
  have C:=E.ok;have s:M.lim<=M.nx:=by rw [E.lim];exact aA I E.nx
  have t:a.drop i=a[i]::a.drop (i+1):=Xd e;rw [t,Y0];obtain⟨P,V,y,Q,R,A,S⟩:=(B.slice.ext E).at f;have h:=A9.get z i e f;have O:=h.row;have l:=A 0 4 (by omega) (by omega);rw [q8,W9 (by omega),Y1] at l;have K:=aV a i e;have F:=bX a i e;have o:R7 M (λ_=>True) a[i] rows[i]:=FX E h;generalize hX:a[i]=X at *;generalize hR:rows[i]=R1 at *;obtain⟨x,r,E2⟩:=G M R1 X C s o (by omega) (by omega);by_cases hf:cZ X=true;rw [hf] at r;have w:=ih (i+1) (by omega) tt (iV (i:Int)) ff x N (E.trans E2) (by omega);have q:C8 (λenv m k=>fQ (l7 KW fu (n+1)) fu none env m k) (N+1) (qL v (iV (i:Int)) (iV (a.length:Int)) c (.func (.func cl) [] []) k b (iV 0)) M []=C8 (λenv m k=>fQ (l7 KW fu (n+1)) fu none env m k) N (qL v (.int .i64 ((i+1:Nat):Int)) (iV (a.length:Int)) tt (.func (.func cl) [] []) (iV (i:Int)) ff (iV 0)) x []:=by rw [o7];simp [fQ,e,g,y,l,r,L6 (i:=i) (by omega)]
  rw [q,hf,adL];exact w;have p:cZ X=false:=by simpa using hf
  rw [p] at r;refine .inr ⟨by rw [p];rfl,iV (i:Int),.bool true,iV (i:Int),.bool true,i,x,?_,E.trans E2⟩;rw [o7];simp [fQ,e,g,y,l,r]
theorem Gb {cl:FuncId}{n fu d:Nat}(u:20000<=fu)(w:CG cl (n+1) fu d){m:Mem}(p:m.Ok)(x:m.lim<=m.nx){v:d9}(a:List Ex)(h:fB m (λ_=>True) a v)(l:T9 a<=10000)(t:V6 a<=d):
  ∃m',l7 KW fu (n+3) (.func 66) [v,(.func (.func cl) [] [])] m=some [⟨.bool (!Y0 a),m'⟩]∧Ext m m':=by
 obtain⟨s,j,o⟩:=h;have f:=A9.len o;have c:=j.slice.len;rw [f] at c;have y:=K8 a;have r:=HZ j.slice;rcases Yf (n:=n) (fu:=fu) w p x a j o l t a.length 0 (by omega) .undef .undef .undef m fu (Ext.refl p) (by omega) with⟨ha,c',k',b',M',g,q⟩ | ⟨ha,i',c',k',b',r',M',g,q⟩;have i:C8 (λe m k=>fQ (l7 KW fu (n+1)) fu none e m k) fu (qL v (iV 0) (iV (a.length:Int)) .undef (.func (.func cl) [] []) .undef .undef (iV 0)) m []=_:=g;rw [q8] at ha;have b:l7 KW fu (n+2) (.func 111) [v,(.func (.func cl) [] [])] m=some [⟨iV (-1),M'⟩]:=by rw [enter (sf:=f111) rfl rfl];simp [f111,c,i,r]
 refine⟨M',?_,q⟩;rw [enter (sf:=f66) rfl rfl];simp [f66,b,ha];have i:C8 (λe m k=>fQ (l7 KW fu (n+1)) fu none e m k) fu (qL v (iV 0) (iV (a.length:Int)) .undef (.func (.func cl) [] []) .undef .undef (iV 0)) m []=_:=g;rw [q8] at ha;have b:l7 KW fu (n+2) (.func 111) [v,(.func (.func cl) [] [])] m=some [⟨iV (r':Int),M'⟩]:=by rw [enter (sf:=f111) rfl rfl];simp [f111,c,i,r]
 have z:(0:Int)<=(r':Int):=by omega
 refine⟨M',?_,q⟩;rw [enter (sf:=f66) rfl rfl];simp [f66,b,ha,z]
theorem Lu {n fu d:Nat}(c:20000<=fu)(b:Ye n fu d){m:Mem}(i:m.Ok)(g:m.lim<=m.nx){v:d9}(a:List Ex)(h:fB m (λ_=>True) a v)(e:T9 a<=10000)(f:V6 a<=d):
  ∃m',l7 KW fu (n+3) (.func 66) [v,.func (.func 67) [] []] m=some [⟨.bool (!Y0 a),m'⟩]∧Ext m m':=Gb c (afl b) i g a h e f
theorem SH (fu:Nat)(t:20000<=fu):∀d n:Nat,4*d+2<=n->Ye n fu d:=by
 intro d;induction d with
 | zero=>intro n hn m Q e l j h W P;obtain⟨k0,n0,u,a⟩:=e;rw [dZ] at P;omega
 | succ d ih=>
  intro n hn m Q e l j h W P;obtain⟨n,rfl⟩:∃k,n=k+6:=⟨n-6,by omega⟩;obtain⟨k0,n0,u,a⟩:=e;obtain⟨v,s,rfl,F,V⟩:=h;have r:=F.slice.u7;have H:=HZ F.slice;have p:=F.slice.cells;have C:=A9.len V;have c:=F.slice.len;rw [C] at c;rw [gM] at W;rw [dZ] at P;have E:=G6 l [l9 (r4 k0 n0 u v)];have a0:=K8 a;have b:=λm=>afj k0 (n+4) fu m;by_cases c1:aH k0=-2;refine⟨_,?_,E⟩;rw [enter (sf:=f29) rfl rfl];simp [f29,P6 l j,u7,r,p,b,c1,cZ];by_cases D:0<=aH k0∧¬ (a.length:Int)=aH k0;obtain⟨D,A⟩:=D;have I:¬ aH k0<0:=by omega
  refine⟨_,?_,E⟩;rw [enter (sf:=f29) rfl rfl];simp [f29,P6 l j,u7,r,p,b,c1,D,I,A,c,cZ];have J:¬ (0<=aH k0∧¬ (a.length:Int)=aH k0):=D;have f:aH k0<0∨(a.length:Int)=aH k0:=by omega
  by_cases A:(k0=1∧(n0<0∨9007199254740992<n0))∨(¬ k0=1∧¬ n0=0);refine⟨_,?_,E⟩;rw [enter (sf:=f29) rfl rfl];rcases A with⟨A,c4⟩ | ⟨A,c4⟩;subst A;have ha:a.length=0:=by simpa [aH] using f
  have O:a=[]:=aeN ha;subst O;have w:aH 1=0:=rfl;by_cases c5:n0<0;have K:¬ 0<=n0:=by omega
  simp [f29,P6 l j,u7,r,p,b,w,c,cZ,c5,K];have K:0<=n0:=by omega
  have Y:9007199254740992<n0:=by omega
  have Z:¬ n0<=9007199254740992:=by omega
  simp [f29,P6 l j,u7,r,p,b,w,c,cZ,c5,K,Y,Z];rcases f with h | h;have M:¬ 0<=aH k0:=by omega
  simp [f29,P6 l j,u7,r,p,b,c1,h,M,c,cZ,A,c4];have M:0<=aH k0:=by omega
  have N:¬ aH k0<0:=by omega
  simp [f29,P6 l j,u7,r,p,b,c1,← h,c,cZ,A,c4];have y:=eD.mono (m':=ext m [l9 (r4 k0 n0 u v)]) F E.nx (λi hi _=>E.old i hi) (S':=λ_=>True) λ_ _ h=>h;have z:=yH E V;clear D J;by_cases hk2:k0=2;subst hk2;have w:aH 2=0:=rfl;have x:n0=0:=by omega
  subst x;obtain⟨G,o,E1⟩:=Ls (n:=n) t E.ok (by rw [E.lim];exact aA j E.nx) u;have f:a.length=0:=by simpa [aH] using f
  by_cases hb:Ai u=true
  skip
  obtain⟨M',g,q⟩:=Lu (n:=n+2) (fu:=fu) t (ih (n+2) (by omega)) E1.ok (by rw [E1.lim,E.lim];exact aA j (aA E.nx E1.nx)) a (fB.ext ⟨s,y,z⟩ E1) (by omega) (by omega);have L:G.get m.nx=some (l9 (r4 2 0 u v)):=(E1.old _ (by simp)).trans (by rw [r9 l];rfl);refine⟨M',?_,E.trans (E1.trans q)⟩;rw [enter (sf:=f29) rfl rfl];simp [f29,P6 l j,u7,r,p,b,w,f,c,cZ,o,hb,g,H,L];have B:Ai u=false:=by simpa using hb
  refine⟨G,?_,E.trans E1⟩;rw [enter (sf:=f29) rfl rfl];simp [f29,P6 l j,u7,r,p,b,w,f,c,cZ,o,B];by_cases hk3:k0=3;subst hk3;have w:aH 3=-1:=rfl;have x:n0=0:=by omega
  subst x;obtain⟨G,o,E1⟩:=Ls (n:=n) t E.ok (by rw [E.lim];exact aA j E.nx) u;clear f;have f:True:=trivial
  by_cases hb:Ai u=true
  skip
  obtain⟨M',g,q⟩:=Lu (n:=n+2) (fu:=fu) t (ih (n+2) (by omega)) E1.ok (by rw [E1.lim,E.lim];exact aA j (aA E.nx E1.nx)) a (fB.ext ⟨s,y,z⟩ E1) (by omega) (by omega);have L:G.get m.nx=some (l9 (r4 3 0 u v)):=(E1.old _ (by simp)).trans (by rw [r9 l];rfl);refine⟨M',?_,E.trans (E1.trans q)⟩;rw [enter (sf:=f29) rfl rfl];simp [f29,P6 l j,u7,r,p,b,w,f,c,cZ,o,hb,g,H,L];have B:Ai u=false:=by simpa using hb
  refine⟨G,?_,E.trans E1⟩;rw [enter (sf:=f29) rfl rfl];simp [f29,P6 l j,u7,r,p,b,w,f,c,cZ,o,B];by_cases hk1:k0=1;subst hk1;have w:aH 1=0:=rfl;have f:a.length=0:=by simpa [aH] using f
  have R:0<=n0:=by omega
  have S:¬ n0<0:=by omega
  have T:n0<=9007199254740992:=by omega
  have U:¬ 9007199254740992<n0:=by omega
  by_cases hs:u=[];subst hs;obtain⟨M',g,q⟩:=Lu (n:=n+2) (fu:=fu) t (ih (n+2) (by omega)) E.ok (by rw [E.lim];exact aA j E.nx) a ⟨s,y,z⟩ (by omega) (by omega);refine⟨M',?_,E.trans q⟩;rw [enter (sf:=f29) rfl rfl];simp [f29,P6 l j,u7,r,p,b,c,cZ,p9,w,f,R,S,T,U,g,H];refine⟨_,?_,E⟩;rw [enter (sf:=f29) rfl rfl];simp [f29,P6 l j,u7,r,p,b,c,cZ,p9,w,f,R,S,T,U,hs];have x:n0=0:=by omega
  subst x;have X:0<aH k0:=by unfold aH at c1 ⊢;rw [if_neg hk3,if_neg (by omega)] at c1 ⊢;by_cases z1:k0=4∨k0=5;rw [if_pos z1];omega;rw [if_neg z1] at c1 ⊢;by_cases z2:6<=k0∧k0<=18;rw [if_pos z2];omega;rw [if_neg z2] at c1;exact absurd rfl c1
  have h:(a.length:Int)=aH k0:=by omega
  have M:0<=aH k0:=by omega
  have N:¬ aH k0<0:=by omega
  by_cases hs:u=[];subst hs;obtain⟨M',g,q⟩:=Lu (n:=n+2) (fu:=fu) t (ih (n+2) (by omega)) E.ok (by rw [E.lim];exact aA j E.nx) a ⟨s,y,z⟩ (by omega) (by omega);refine⟨M',?_,E.trans q⟩;rw [enter (sf:=f29) rfl rfl];simp [f29,P6 l j,u7,r,p,b,c,cZ,p9,c1,← h,hk1,hk2,hk3,g,H];refine⟨_,?_,E⟩;rw [enter (sf:=f29) rfl rfl];simp [f29,P6 l j,u7,r,p,b,c,cZ,p9,c1,← h,hk1,hk2,hk3,hs]
def Yg:Ex->Int
 | .mk k _ _ _=>k
mutual
def tQ:V7->Bool
 | .mk k s e t f=>decide (1<=k)&&decide (k<=6)&&(if k=1∨k=2 then Ai s else decide (s=[]))&&decide (e.length≠0)&&(decide (e.length<=1)||decide (k=5)) &&
   (decide (t.length=0)||decide (k=3)||decide (k=4))&&(decide (f.length=0)||decide (k=3))&&(decide (k≠6)||decide ((e.map Yg).head?=some 3))&&Y0 e&&aT t&&aT f
def aT:List V7->Bool
 | []=>true
 | s::l=>tQ s&&aT l
end
theorem wE {n fu d:Nat}(x:C79 n fu d){m:Mem}{p:Nat}(hm:m.Ok)(hp:p<m.nx)(O:m.lim<=m.nx){R:List d9}{x5:d9}{k0:Int}{s0:List UInt8}{v vt vf x2 x3 x4 x6:d9}{rows:List (List d9)}(G:m.get p=some (l9 (r5 k0 s0 v vt vf)))(a:List Ex)(D:eD m (λ_=>True) 4 v rows)(F:A9 m (λ_=>True) a rows)(S:T9 a<=10000)(Z:V6 a<=d):
  ∀(j i:Nat),i+j=a.length->∀(c e:d9) (M:Mem) (N:Nat),Ext m M->j+1<=N->
  (Y0 (a.drop i)=true∧∃c' e' M',C8 (λenv m k=>jK (l7 KW fu n) fu none env m k) N (fT (.agg R) (.ptr p 0) x2 ff ff x5 ff (iV (i:Int)) c e ff) M []=some [⟨.exit 0,(fT (.agg R) (.ptr p 0) x2 ff ff x5 ff (iV (a.length:Int)) c' e' ff),M',[],none⟩]∧Ext m M')∨
  (Y0 (a.drop i)=false∧∃(i' c' e':d9) (M':Mem),C8 (λenv m k=>jK (l7 KW fu n) fu none env m k) N (fT (.agg R) (.ptr p 0) x2 ff ff x5 ff (iV (i:Int)) c e ff) M []=some [⟨.ret,(fT (.agg R) (.ptr p 0) x2 ff ff x5 ff i' c' e' ff),M',[],none⟩]∧Ext m M'):=by
 have r:=A9.len F;have b:=D.slice.len;rw [r] at b;have P:=K8 a;intro j;induction j with
 | zero=>
  intro i L c e M N E J;obtain⟨N,rfl⟩:∃k,N=k+1:=⟨N-1,by omega⟩;obtain rfl:i=a.length:=by omega
  have g:=(E.old p hp).trans G;refine .inl ⟨by simp [Y0],.bool false,e,M,?_,E⟩;rw [o7];simp [jK,g,b]
 | succ j ih=>
  intro i L c e M N E J;obtain⟨N,rfl⟩:∃k,N=k+1:=⟨N-1,by omega⟩;have f:i<a.length:=by omega
  have h:i<rows.length:=by omega
  have l:(i:Int)<(a.length:Int):=by omega
  have I:=E.ok;have y:M.lim<=M.nx:=by rw [E.lim];exact aA O E.nx
  have g:=(E.old p hp).trans G;have z:a.drop i=a[i]::a.drop (i+1):=Xd f;rw [z,Y0];obtain⟨U,o1,C,V,W,H,Y⟩:=(D.slice.ext E).at h;have o:=A9.get F i f h;have T:=o.row;have q:=H 0 4 (by omega) (by omega);rw [q8,W9 (by omega),Y1] at q;have Q:=aV a i f;have K:=bX a i f;have s:R7 M (λ_=>True) a[i] rows[i]:=FX E o;generalize hX:a[i]=X at *;generalize hR:rows[i]=R1 at *;obtain⟨B,w,E2⟩:=x M R1 X I y s (by omega) (by omega);by_cases hf:cZ X=true;rw [hf] at w;have A:=ih (i+1) (by omega) tt ff B N (E.trans E2) (by omega);have u:C8 (λenv m k=>jK (l7 KW fu n) fu none env m k) (N+1) (fT (.agg R) (.ptr p 0) x2 ff ff x5 ff (iV (i:Int)) c e ff) M []=C8 (λenv m k=>jK (l7 KW fu n) fu none env m k) N (fT (.agg R) (.ptr p 0) x2 ff ff x5 ff (.int .i64 ((i+1:Nat):Int)) tt ff ff) B []:=by rw [o7];simp [jK,g,b,f,l,C,q,w,L6 (i:=i) (by omega)]
  rw [u,hf,adL];exact A;have t:cZ X=false:=by simpa using hf
  rw [t] at w;refine .inr ⟨by rw [t];rfl,iV (i:Int),.bool true,.bool true,B,?_,E.trans E2⟩;rw [o7];simp [jK,g,b,f,l,C,q,w]
def C37 (n fu d:Nat):Prop:=∀(m:Mem) (row:List d9) (s:V7),m.Ok->m.lim<=m.nx->ig m (λ_=>True) s row->stP s<=10000->rJ s<=d->
 ∃m',l7 KW fu n (.func 57) [.agg row] m=some [⟨.bool (tQ s),m'⟩]∧Ext m m'
theorem abj {n fu d:Nat}(u:C37 n fu d){m:Mem}(V:m.Ok)(J:m.lim<=m.nx){v:d9}{rows:List (List d9)}(a:List V7)(B:eD m (λ_=>True) 5 v rows)(C:H6 m (λ_=>True) a rows)(O:U2 a<=10000)(U:au a<=d):
  ∀(j i:Nat),i+j=a.length->∀(c e:d9) (M:Mem) (N:Nat),Ext m M->j+1<=N->
  (aT (a.drop i)=true∧∃c' e' M',C8 (λenv m k=>zW (l7 KW fu n) fu none env m k) N (XJ (iV (i:Int)) v c e ff) M []=some [⟨.exit 0,(XJ (iV (a.length:Int)) v c' e' ff),M',[],none⟩]∧Ext m M')∨
  (aT (a.drop i)=false∧∃(i' c' e':d9) (M':Mem),C8 (λenv m k=>zW (l7 KW fu n) fu none env m k) N (XJ (iV (i:Int)) v c e ff) M []=some [⟨.ret,(XJ i' v c' e' ff),M',[],none⟩]∧Ext m M'):=by
 have p:=H6.len C;have b:=B.slice.len;rw [p] at b;have K:=U0 a;intro j;induction j with
 | zero=>
  intro i I c e M N E G;obtain⟨N,rfl⟩:∃k,N=k+1:=⟨N-1,by omega⟩;obtain rfl:i=a.length:=by omega
  refine .inl ⟨by simp [aT],.bool false,e,M,?_,E⟩;rw [o7];simp [zW,b]
 | succ j ih=>
  intro i I c e M N E G;obtain⟨N,rfl⟩:∃k,N=k+1:=⟨N-1,by omega⟩;have f:i<a.length:=by omega
  have g:i<rows.length:=by omega
  have h:(i:Int)<(a.length:Int):=by omega
  have F:=E.ok;have w:M.lim<=M.nx:=by rw [E.lim];exact aA J E.nx
  have x:a.drop i=a[i]::a.drop (i+1):=Xd f;rw [x,aT];obtain⟨Q,W,A,R,S,D,T⟩:=(B.slice.ext E).at g;have l:=H6.get C i f g;have P:=l.row;have o:=D 0 5 (by omega) (by omega);rw [q8,W9 (by omega),Y1] at o;have L:=jf a i f;have H:=mE a i f;have q:ig M (λ_=>True) a[i] rows[i]:=XK E l;generalize hX:a[i]=X at *;generalize hR:rows[i]=R1 at *;obtain⟨z,t,E2⟩:=u M R1 X F w q (by omega) (by omega);by_cases hf:tQ X=true;rw [hf] at t;have y:=ih (i+1) (by omega) tt ff z N (E.trans E2) (by omega);have s:C8 (λenv m k=>zW (l7 KW fu n) fu none env m k) (N+1) (XJ (iV (i:Int)) v c e ff) M []=C8 (λenv m k=>zW (l7 KW fu n) fu none env m k) N (XJ (.int .i64 ((i+1:Nat):Int)) v tt ff ff) z []:=by rw [o7];simp [zW,b,f,h,A,o,t,L6 (i:=i) (by omega)]
  rw [s,hf,adL];exact y;have r:tQ X=false:=by simpa using hf
  rw [r] at t;refine .inr ⟨by rw [r];rfl,iV (i:Int),.bool true,.bool true,z,?_,E.trans E2⟩;rw [o7];simp [zW,b,f,h,A,o,t]
end
end Go.Proofs.YtfddpcckppibjaaGreatDoor.TT
