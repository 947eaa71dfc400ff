/- Names and well-formed expressions, walked; conditions: the memory holds what the arguments say. -/
import Derived.Test.YteecnooaopfkeaaGreatDoorPD1
set_option linter.all false
namespace Go.Proofs.YteecnooaopfkeaaGreatDoor.TT
open Go Go.AM
noncomputable section
def aoM (s:By):Nat:=if su (s.headD 0) then 1 else 3
def Li (s:By):List Tok->Bool
 | []=>false
 | t :: _=>decide (t=(aoM s,s))
def Rs:List By:=[[108,101,116],[105,102],[101,108,115,101],[119,104,105,108,101],[112,114,105,110,116],[97,110,100],[111,114],[110,111,116]]
def CX (s:By):Bool:=Rs.contains s
def WU:List Tok->Bool
 | []=>false
 | t :: _=>decide (t.1=1) && !CX t.2
def pOp (lv:Int):List Tok->Option Int
 | []=>none
 | t :: _=>Kw lv (t.1:Int) t.2
def aoN:List Tok->Bool
 | []=>false
 | t :: _=>decide (t.1=2)
def txt (t:List Tok):By:=(t.headD (0,[])).2
mutual
def FP:Nat->Nat->List Tok->Option (Ex×List Tok)
 | 0,_,_=>none
 | f+1,lv,t=>
  if lv=2 then
   if Li [110,111,116] t then (match FP f 2 (t.drop 1) with | none=>none | some (x,r)=>some (.mk 5 0 [] [x],r)) else FP f 3 t
  else if lv=6 then
   if Li [45] t then (match FP f 6 (t.drop 1) with | none=>none | some (x,r)=>some (.mk 4 0 [] [x],r)) else aiB f t
  else match FP f (lv+1) t with
   | none=>none
   | some (x,r)=>abP f lv x r
def abP:Nat->Nat->Ex->List Tok->Option (Ex×List Tok)
 | 0,_,_,_=>none
 | f+1,lv,x,t=>match pOp (lv:Int) t with
  | none=>some (x,t)
  | some k=>match FP f (lv+1) (t.drop 1) with
   | none=>none
   | some (y,r)=>if lv=3 then some (.mk k 0 [] [x,y],r) else abP f lv (.mk k 0 [] [x,y]) r
def aiB:Nat->List Tok->Option (Ex×List Tok)
 | 0,_=>none
 | f+1,t=>
  if aoN t then some (.mk 1 (air (txt t):Nat) [] [],t.drop 1)
  else if Li [40] t then
   match FP f 0 (t.drop 1) with
   | none=>none
   | some (x,r)=>if Li [41] r then some (x,r.drop 1) else none
  else if WU t then
   if Li [40] (t.drop 1) then
    if Li [41] (t.drop 2) then some (.mk 3 0 (txt t) [],t.drop 3)
    else match abQ f (t.drop 2) with
     | none=>none
     | some (l,r)=>if Li [41] r then some (.mk 3 0 (txt t) l,r.drop 1) else none
   else some (.mk 2 0 (txt t) [],t.drop 1)
  else none
def abQ:Nat->List Tok->Option (List Ex×List Tok)
 | 0,_=>none
 | f+1,t=>match FP f 0 t with
  | none=>none
  | some (x,r)=>abR f [x] r
def abR:Nat->List Ex->List Tok->Option (List Ex×List Tok)
 | 0,_,_=>none
 | f+1,acc,t=>if Li [44] t then
    match FP f 0 (t.drop 1) with
    | none=>none
    | some (y,r)=>abR f (acc ++ [y]) r
  else some (acc,t)
end
def aiC (f:Nat)(k:Int)(t:List Tok):Option (aR×List Tok):=
 if WU t then
  if Li [61] (t.drop 1) then
   match FP f 0 (t.drop 2) with
   | none=>none
   | some (x,r)=>some (.mk k (txt t) [x] [] [],r)
  else none
 else none
def aiD (t:List Tok):Bool:=Li [40] (t.drop 1)&&WU t
def aoO (f:Nat)(t:List Tok):Option (aR×List Tok):=
 if Li [112,114,105,110,116] t then
  match abQ f (t.drop 1) with
  | none=>none
  | some (l,r)=>some (.mk 5 [] l [] [],r)
 else if Li [108,101,116] t then aiC f 1 (t.drop 1)
 else if aiD t then
  match aiB f t with
  | none=>none
  | some (x,r)=>some (.mk 6 [] [x] [] [],r)
 else aiC f 2 t
mutual
def aoP:Nat->List Tok->Option (aR×List Tok)
 | 0,_=>none
 | f+1,t=>
  if Li [105,102] t then
   match FP f 0 (t.drop 1) with
   | none=>none
   | some (x,r)=>match adQ f r with
    | none=>none
    | some (th,r2)=>if Li [101,108,115,101] r2 then
      match adQ f (r2.drop 1) with
      | none=>none
      | some (el,r3)=>some (.mk 3 [] [x] th el,r3)
     else some (.mk 3 [] [x] th [],r2)
  else if Li [119,104,105,108,101] t then
   match FP f 0 (t.drop 1) with
   | none=>none
   | some (x,r)=>match adQ f r with
    | none=>none
    | some (th,r2)=>some (.mk 4 [] [x] th [],r2)
  else match aoO f t with
   | none=>none
   | some (s,r)=>if Li [59] r then some (s,r.drop 1) else none
def adQ:Nat->List Tok->Option (List aR×List Tok)
 | 0,_=>none
 | f+1,t=>if Li [123] t then aiE f [] (t.drop 1) else none
def aiE:Nat->List aR->List Tok->Option (List aR×List Tok)
 | 0,_,_=>none
 | f+1,acc,t=>if Li [125] t then some (acc,t.drop 1) else
    match aoP f t with
    | none=>none
    | some (s,r)=>aiE f (acc ++ [s]) r
end
set_option maxRecDepth 100000
set_option maxHeartbeats 1000000
theorem gM.tail {M:Mem}{S:Nat->Prop}{rs:Nat}{v:d9}{t:List d9}{ts:List (List d9)}(g:M.Ok)(h:gM M S rs v (t::ts)):
  ∃v' nb,(∀(y a:OF) (ls:List d9) (env:T d9),y ls env=v->a ls env=.int .i64 1->lSl rs y (some a) none ls env M.nx=some (v',nb))∧gM (dF M nb) (λi=>S i∨M.nx<=i) rs v' ts∧Ext M (dF M nb):=by
 rcases h with⟨_,h⟩ | ⟨id,o,h0,h1,h2,h3⟩;cases h;rcases h3 with h3 | ⟨n,rows,h4,h5,h6,h7⟩;cases h3;have e:ts=[]∨∃n rows,M.get id=some (.cells rs n rows)∧o+1+ts.length<=n∧(∀r,r∈ts->r.length=rs)∧∀i (h:i<ts.length),rows.get (o+1+i)=some ts[i]:=by refine .inr ⟨n,rows,h4,by simp at h5;omega,λr k=>h6 r (by simp [k]),λi m=>?_⟩;have:=h7 (i+1) (by simp;omega);rw [show o+1+i=o+(i+1) from by omega,this];rfl
 have j:Nat.add (o*rs) (Nat.mul 1 rs)=(o+1)*rs:=by rw [ado];rfl
 rcases h1 with⟨c,rfl,hc⟩ | rfl;have f:ts.length+1<=c:=by simpa using hc
 refine⟨.slice id (bi (Nat.beq 1 c) (o*rs) (Nat.add (o*rs) (Nat.mul 1 rs))) ts.length (c-1),none,λy a ls env d b=>?_,?_,Ext.refl g⟩;show jN (a ls env) (λl=>N7 M.nx rs (y ls env) l none)=_;rw [b,d];show bi (Nat.ble 1 (ts.length+1)) (bi (Nat.ble (ts.length+1) c) (some (d9.slice id (bi (Nat.beq 1 c) (o*rs) (Nat.add (o*rs) (Nat.mul 1 rs))) (Nat.sub (ts.length+1) 1) (Nat.sub c 1),none)) none) none=_;rw [show Nat.ble 1 (ts.length+1)=true from Y4 (by omega),show Nat.ble (ts.length+1) c=true from Y4 f];rfl;rw [iE];by_cases hc1:1=c;rw [if_pos hc1];have:ts=[]:=aa5.1 (by omega);subst this;exact .inr ⟨id,o,.inl h0,.inl ⟨c-1,rfl,by simp⟩,h2,.inl rfl⟩;rw [if_neg hc1,j];exact .inr ⟨id,o+1,.inl h0,.inl ⟨c-1,rfl,by omega⟩,h2,e⟩;by_cases ht:ts=[];subst ht;refine⟨.sliceU M.nx 0 0 rs,some (.tail id),λy a ls env d b=>?_,?_,(Ext.refl g).new _⟩;show jN (a ls env) (λl=>N7 M.nx rs (y ls env) l none)=_;rw [b,d];show bi (Nat.beq rs rs) _ none=_;rw [show Nat.beq rs rs=true from abp rs];rfl;exact .inr ⟨M.nx,0,.inr (J2 _),.inr (by simp),by show M.nx<M.nx+1;omega,.inl rfl⟩;have p:=ad1.2 ht;refine⟨.sliceU id (Nat.add (o*rs) (Nat.mul 1 rs)) ts.length rs,none,λy a ls env d b=>?_,?_,Ext.refl g⟩;show jN (a ls env) (λl=>N7 M.nx rs (y ls env) l none)=_;rw [b,d];show bi (Nat.ble 1 (ts.length+1)) (bi (Nat.ble (ts.length+1) (ts.length+1)) (bi (Nat.beq rs rs) (bi (Nat.blt 1 (ts.length+1)) (some (d9.sliceU id (Nat.add (o*rs) (Nat.mul 1 rs)) (Nat.sub (ts.length+1) 1) rs,none)) _) none) none) none=_;rw [show Nat.ble 1 (ts.length+1)=true from Y4 (by omega),show Nat.ble (ts.length+1) (ts.length+1)=true from Y4 (J2 _),show Nat.beq rs rs=true from abp rs,show Nat.blt 1 (ts.length+1)=true from Y5.mpr (by omega)];rfl;rw [j];exact .inr ⟨id,o+1,.inl h0,.inr rfl,h2,e⟩
structure RD (S:Nat->Prop)(p:Nat)(M:Mem)(toks:List Tok):Prop where
 ok:M.Ok
 lt:p<M.nx
 lim:M.lim<=p
 np:¬ S p
 has:∃v,M.get p=some (o8 [v])∧gM M S 2 v (vD toks)
theorem RD.zY {S:Nat->Prop}{p:Nat}{M:Mem}{a:List Tok}(h:RD S p M a):M.lim<=M.nx:=aA h.lim (afC h.lt)
theorem RD.ext {S:Nat->Prop}{p:Nat}{M a:Mem}{toks:List Tok}(h:RD S p M toks)(e:Ext M a):RD S p a toks:=by obtain⟨v,b,c⟩:=h.has;exact⟨e.ok,gI h.lt e.nx,by rw [e.lim];exact h.lim,h.np,v,(e.old p h.lt).trans b,c.mono e.nx (λi d _=>e.old i d) λ_ _ h=>h⟩
theorem RD.drop {S:Nat->Prop}{p:Nat}{M:Mem}{t:Tok}{ts:List Tok}(h:RD S p M (t::ts)):∃v v' nb,M.get p=some (o8 [v])∧gK M 2 v (vD (t::ts))∧(∀(y a:OF) (ls:List d9) (env:T d9),y ls env=v->a ls env=.int .i64 1->lSl 2 y (some a) none ls env M.nx=some (v',nb))∧Go.AM.r9 v'=true∧v'.cells=[v']∧(dF M nb).get p=some (o8 [v])∧
  (dF M nb).lim<=p∧gZ p M ((dF M nb).set p (o8 [v']))∧RD (λi=>S i∨M.nx<=i) p ((dF M nb).set p (o8 [v'])) ts:=by
 obtain⟨v,j,k⟩:=h.has;obtain⟨v',nb,l,f,c⟩:=gM.tail (t:=abO t) (ts:=vD ts) h.ok k;have b:p<(dF M nb).nx:=gI h.lt c.nx;have g:∀i,S i∨M.nx<=i->i≠p:=λi d m=>by subst m;rcases d with d | d;exact h.np d;have:=h.lt;omega
 refine⟨v,v',nb,j,k.slice,l,f.slice.r9,f.slice.cells,(c.old p h.lt).trans j,by rw [c.lim];exact h.lim,⟨Mem.Ok.set c.ok b _,by simpa using c.nx,by simpa using c.lim,λi d n=>by rw [V7 c.ok _ b n,c.old i d]⟩,
  Mem.Ok.set c.ok b _,by simpa using b,by show (dF M nb).lim<=p;rw [c.lim];exact h.lim,λe=>by rcases e with e | e;exact h.np e;have:=h.lt;omega,v',G8 c.ok _ b rfl,f.mono (by simp) (λi d o=>V7 c.ok _ b (g i o)) λ_ _ h=>h⟩
theorem RD.wide {S S':Nat->Prop}{p:Nat}{M:Mem}{toks:List Tok}(h:RD S p M toks)(c:∀i,i<M.nx->S i->S' i)(hp:¬ S' p):RD S' p M toks:=by obtain⟨v,a,b⟩:=h.has;exact⟨h.ok,h.lt,h.lim,hp,v,a,b.mono (J2 _) (λ_ _ _=>rfl) c⟩
theorem WV {m:Mem}{v:d9}{s:By}{cf:G9}{fu:Nat}(l:List By)(z:l.length<=1000)(x:bK m v (strs l)):
  ∀(j i:Nat),i+j=l.length->∀(c3 c5 c6:d9) (N:Nat),j+1<=N->
  (s∉l.drop i∧∃c3' c5' c6',A9 (λenv m k=>qp cf fu none env m k) N (Ai v (iV (i:Int)) (iV (l.length:Int)) c3 (.str s) c5 c6 (iV 0)) m []=some [⟨.exit 0,(Ai v (iV (l.length:Int)) (iV (l.length:Int)) c3' (.str s) c5' c6' (iV 0)),m,[],none⟩])∨
  (s∈l.drop i∧∃(x1 x3 x5 x6:d9) (j:Nat),A9 (λenv m k=>qp cf fu none env m k) N (Ai v (iV (i:Int)) (iV (l.length:Int)) c3 (.str s) c5 c6 (iV 0)) m []=some [⟨.ret,(Ai v x1 (iV (l.length:Int)) x3 (.str s) x5 x6 (iV (j:Int))),m,[],none⟩]):=by
 intro j;induction j with
 | zero=>
  intro i u c3 c5 c6 N r;obtain⟨N,rfl⟩:∃k,N=k+1:=⟨N-1,by omega⟩;obtain rfl:i=l.length:=by omega
  refine .inl ⟨by simp,.bool false,c5,c6,?_⟩;rw [l8];simp [qp]
 | succ j ih=>
  intro i u c3 c5 c6 N r;obtain⟨N,rfl⟩:∃k,N=k+1:=⟨N-1,by omega⟩;have d:i<l.length:=by omega
  have e:(i:Int)<(l.length:Int):=by omega
  obtain⟨id,c,q,y,n⟩:=x.at (i:=i) (by rw [bL];omega);have p:(strs l)[i]'(by rw [bL];exact d)=.str l[i]:=ag5 ..;rw [p] at n;have g:qU v none (λid c f _=>idx f (iV (i:Int)) λk=>some (d9.ptr id (c+k))) (λid c f _=>idx f (iV (i:Int)) λk=>some (d9.ptr id (c+k)))=some (.ptr id c):=by simpa using q
  have t:l.drop i=l[i]::l.drop (i+1):=Xl d;rw [t];by_cases hs:s=l[i];refine .inr ⟨by rw [hs];exact ac2,iV (i:Int),.bool true,iV (i:Int),.bool true,i,?_⟩;rw [l8];simp [qp,d,e,g,n,← hs,o9];have o:=ih (i+1) (by omega) tt (iV (i:Int)) ff N (by omega);have h:A9 (λenv m k=>qp cf fu none env m k) (N+1) (Ai v (iV (i:Int)) (iV (l.length:Int)) c3 (.str s) c5 c6 (iV 0)) m []=A9 (λenv m k=>qp cf fu none env m k) N (Ai v (.int .i64 ((i+1:Nat):Int)) (iV (l.length:Int)) tt (.str s) (iV (i:Int)) ff (iV 0)) m []:=by rw [l8];simp [qp,d,e,g,n,hs,o9,J7 (i:=i) (by omega)]
  rw [h];rcases o with⟨a,b⟩ | ⟨a,b⟩;exact .inl ⟨λw=>(Z9.1 w).elim hs a,b⟩;exact .inr ⟨Z8 _ a,b⟩
theorem ZU {m:Mem}{v:d9}{s:By}(l:List By)(i:l.length<=1000)(f:bK m v (strs l))(n fu:Nat)(h:2000<=fu):
  l7 KW fu (n+2) (.func 227) [v,.str s] m=some [⟨.bool (decide (s∈l)),m⟩]:=by
 have b:=f.len;rw [bL] at b;have e:(s∉l∧l7 KW fu (n+1) (.func 292) [v,.str s] m=some [⟨iV (-1),m⟩])∨(s∈l∧∃j:Nat,l7 KW fu (n+1) (.func 292) [v,.str s] m=some [⟨iV (j:Int),m⟩]):=by rcases WV (s:=s) (cf:=l7 KW fu n) (fu:=fu) l i f l.length 0 (by omega) .undef .undef .undef fu (by omega) with⟨a,c3',c5',c6',g⟩ | ⟨a,x1,x3,x5,x6,j,g⟩;have d:A9 (λc m k=>qp (l7 KW fu n) fu none c m k) fu (Ai v (iV 0) (iV (l.length:Int)) .undef (.str s) .undef .undef (iV 0)) m []=_:=g;refine .inl ⟨by simpa using a,?_⟩;rw [enter (sf:=f292) rfl rfl];simp [f292,b,d];have d:A9 (λc m k=>qp (l7 KW fu n) fu none c m k) fu (Ai v (iV 0) (iV (l.length:Int)) .undef (.str s) .undef .undef (iV 0)) m []=_:=g;refine .inr ⟨by simpa using a,j,?_⟩;rw [enter (sf:=f292) rfl rfl];simp [f292,b,d]
 rw [enter (sf:=f227) rfl rfl];rcases e with⟨a,g⟩ | ⟨a,j,g⟩;simp [f227,g,a];have:(0:Int)<=(j:Int):=by omega
 simp [f227,g,a,this]
theorem bs8 (ls:List d9)(env:T d9)(a:Nat):H9 1 8 [.str []] [(0,1,u6 (.str [108,101,116])),(1,1,u6 (.str [105,102])),(2,1,u6 (.str [101,108,115,101])),(3,1,u6 (.str [119,104,105,108,101])),(4,1,u6 (.str [112,114,105,110,116])),(5,1,u6 (.str [97,110,100])),(6,1,u6 (.str [111,114])),(7,1,u6 (.str [110,111,116]))] ls env a=some (.slice a 0 8 8,some (.cells 1 8 (T.ofList ((strs Rs).map ([·]))))):=rfl
theorem ZV {m:Mem}(b:m.Ok)(s:By)(n fu:Nat)(a:2000<=fu):∃m',l7 KW fu (n+3) (.func 177) [.str s] m=some [⟨.bool (CX s),m'⟩]∧Ext m m':=by
 have E:=H7 b [.cells 1 8 (T.ofList ((strs Rs).map ([·])))];have c:bK (ext m [.cells 1 8 (T.ofList ((strs Rs).map ([·])))]) (.slice m.nx 0 8 8) (strs Rs):=Bt b (strs Rs);have g:=ZU (s:=s) Rs (by decide) c n fu a;have e:decide (s∈Rs)=CX s:=by unfold CX;rw [List.contains_eq_mem]
 rw [e] at g;refine⟨_,?_,E⟩;rw [enter (sf:=f177) rfl rfl];simp [f177,I5,J5,bs8,g]
def eX (f:Ex->Int->Int):List Ex->Int->Int->Int
 | [],n,_=>n
 | e::l,n,most=>if n<=most then eX f l (n+f e (most-n)) most else n
def FL:Ex->List Ex
 | .mk _ _ _ a=>a
def wX:Nat->Ex->Int->Int
 | 0,_,most=>most+1
 | d+1,e,most=>eX (wX d) (FL e) 1 most
def stN:aR->List UInt8
 | .mk _ s _ _ _=>s
def stE:aR->List Ex
 | .mk _ _ e _ _=>e
def stT:aR->List aR
 | .mk _ _ _ t _=>t
def stF:aR->List aR
 | .mk _ _ _ _ f=>f
def TK (F:List aR->Int->Int)(X:Ex->Int->Int):List aR->Int->Int->Int
 | [],n,_=>n
 | s::l,n,most=>if n<=most then
    TK F X l (eX X (stE s) (n+1+((stN s).length / 100:Nat)+F (stT s) (most-n)+F (stF s) (most-n)) most) most else n
def wS:Nat->List aR->Int->Int
 | 0,_,most=>most+1
 | d+1,l,most=>TK (wS d) (wX d) l 0 most
theorem zW (f:Ex->Int->Int)(hf:∀e most,0<=most->0<=f e most):∀(l:List Ex) (n most:Int),n<=eX f l n most
 | [],n,most=>Int.le_refl _
 | e::l,n,most=>by rw [eX];split;have h1:=hf e (most-n) (by omega);have h2:=zW f hf l (n+f e (most-n)) most;omega;omega
theorem NZ (f:Ex->Int->Int)(hf:∀e most,0<=most->f e most<=most+1):∀(l:List Ex) (n most:Int),eX f l n most<=max n (most+1)
 | [],n,most=>by rw [eX];omega
 | e::l,n,most=>by rw [eX];split;have h1:=hf e (most-n) (by omega);have h2:=NZ f hf l (n+f e (most-n)) most;omega;omega
theorem FM:∀(d:Nat) (e:Ex) (most:Int),0<=most->1<=wX d e most∧wX d e most<=most+1
 | 0,e,most,h=>by rw [wX];omega
 | d+1,e,most,h=>by rw [wX];have h1:=zW (wX d) (λe m hm=>by have:=FM d e m hm;omega) (FL e) 1 most;have h2:=NZ (wX d) (λe m hm=>(FM d e m hm).2) (FL e) 1 most;omega
theorem Bv (d:Nat)(hd:∀(e:Ex)(most:Int),0<=most->wX d e most<=most->wX d e most=(oJ e:Int)∧qx e<=d):
  ∀(l:List Ex) (n most:Int),eX (wX d) l n most<=most->eX (wX d) l n most=n+(S9 l:Int)∧ah l<=d
 | [],n,most,h=>by simp [eX,S9,ah]
 | e::l,n,most,h=>by rw [eX] at h ⊢;split at h;rename_i hn;rw [if_pos hn];have hg:=zW (wX d) (λe m hm=>by have:=FM d e m hm;omega) l (n+wX d e (most-n)) most;obtain⟨h1,h2⟩:=hd e (most-n) (by omega) (by omega);obtain⟨h3,h4⟩:=Bv d hd l _ most h;rw [h3,h1,S9,ah];exact⟨by omega,by omega⟩;omega
theorem WL:∀(d:Nat) (e:Ex) (most:Int),0<=most->wX d e most<=most->wX d e most=(oJ e:Int)∧qx e<=d
 | 0,e,most,h0,h=>by rw [wX] at h;omega
 | d+1,.mk k n s a,most,h0,h=>by rw [wX] at h ⊢;obtain⟨h1,h2⟩:=Bv d (WL d) a 1 most h;exact⟨by rw [FL,h1,oJ];omega,by rw [qx];omega⟩
mutual
def stW:aR->Nat
 | .mk _ s e t f=>1+s.length / 100+CW t+CW f+S9 e
def CW:List aR->Nat
 | []=>0
 | s::l=>stW s+CW l
end
mutual
def vS:aR->Nat
 | .mk _ s e t f=>1300+s.length+tK t+tK f+700*e.length
def tK:List aR->Nat
 | []=>0
 | s::l=>vS s+tK l
end
theorem Bw (d:Nat)(l:List Ex)(n most:Int):n<=eX (wX d) l n most:=zW (wX d) (λe m a=>by have:=FM d e m a;omega) l n most
theorem Jf (d:Nat):∀(l:List Ex) (n most:Int),0<=n->most<=600->eX (wX d) l n most<=n+700*(l.length:Int)
 | [],n,most,h0,h=>by simp [eX]
 | e::l,n,most,h0,h=>by rw [eX];split;have h1:=FM d e (most-n) (by omega);have h2:=Jf d l (n+wX d e (most-n)) most (by omega) h;rw [Y1];omega;rw [Y1];omega
theorem Qg (d:Nat)(hF:∀(l:List aR)(most:Int),0<=most->most<=600->0<=wS d l most∧wS d l most<=601+(tK l:Int)):
  ∀(l:List aR) (n most:Int),0<=n->most<=600->n<=TK (wS d) (wX d) l n most∧TK (wS d) (wX d) l n most<=n+(tK l:Int)
 | [],n,most,h0,h=>by simp [TK,tK]
 | .mk k s e t f::l,n,most,h0,h=>by rw [TK,tK,vS];split;rename_i hn;obtain⟨a1,a2⟩:=hF t (most-n) (by omega) (by omega);obtain⟨b1,b2⟩:=hF f (most-n) (by omega) (by omega);have hdiv:s.length / 100<=s.length:=Nat.div_le_self _ _;simp only [stN,stE,stT,stF];have c1:=Bw d e (n+1+(s.length / 100:Nat)+wS d t (most-n)+wS d f (most-n)) most;have c2:=Jf d e (n+1+(s.length / 100:Nat)+wS d t (most-n)+wS d f (most-n)) most (by omega) h;generalize eX (wX d) e (n+1+(s.length / 100:Nat)+wS d t (most-n)+wS d f (most-n)) most=y at c1 c2 ⊢;obtain⟨e1,e2⟩:=Qg d hF l y most (by omega) h;exact⟨by omega,by omega⟩;exact⟨by omega,by omega⟩
theorem Jg:∀(d:Nat) (l:List aR) (most:Int),0<=most->most<=600->0<=wS d l most∧wS d l most<=601+(tK l:Int)
 | 0,l,most,h0,h=>by rw [wS];omega
 | d+1,l,most,h0,h=>by rw [wS];obtain⟨h1,h2⟩:=Qg d (Jg d) l 0 most (by omega) h;exact⟨by omega,by omega⟩
theorem Ro (d:Nat)(hF:∀(l:List aR)(most:Int),0<=most->most<=600->wS d l most<=most->wS d l most=(CW l:Int)∧aZ l<=d):
  ∀(l:List aR) (n most:Int),0<=n->most<=600->TK (wS d) (wX d) l n most<=most->TK (wS d) (wX d) l n most=n+(CW l:Int)∧aZ l<=d+1
 | [],n,most,h0,hm,h=>by simp [TK,CW,aZ]
 | .mk k s e t f::l,n,most,h0,hm,h=>by rw [TK] at h ⊢;split at h;rename_i hn;rw [if_pos hn];have a1:=Jg d t (most-n) (by omega) (by omega);have b1:=Jg d f (most-n) (by omega) (by omega);simp only [stN,stE,stT,stF] at h ⊢;have c1:=Bw d e (n+1+(s.length / 100:Nat)+wS d t (most-n)+wS d f (most-n)) most;have e1:=(Qg d (Jg d) l (eX (wX d) e (n+1+(s.length / 100:Nat)+wS d t (most-n)+wS d f (most-n)) most) most (by omega) hm).1;obtain⟨g1,g2⟩:=Ro d hF l _ most (by omega) hm h;obtain⟨t1,t2⟩:=hF t (most-n) (by omega) (by omega) (by omega);obtain⟨f1,f2⟩:=hF f (most-n) (by omega) (by omega) (by omega);obtain⟨x1,x2⟩:=Bv d (WL d) e _ most (by omega:eX (wX d) e (n+1+(s.length / 100:Nat)+wS d t (most-n)+wS d f (most-n)) most<=most);rw [g1,x1,t1,f1,CW,stW,aZ,vE];exact⟨by omega,by omega⟩;omega
theorem WM:∀(d:Nat) (l:List aR) (most:Int),0<=most->most<=600->wS d l most<=most->wS d l most=(CW l:Int)∧aZ l<=d
 | 0,l,most,h0,hm,h=>by rw [wS] at h;omega
 | d+1,l,most,h0,hm,h=>by rw [wS] at h ⊢;obtain⟨h1,h2⟩:=Ro d (WM d) l 0 most (by omega) hm h;exact⟨by omega,h2⟩
mutual
theorem aiy:∀s:aR,stP s<=stW s
 | .mk _ s e t f=>by rw [stP,stW];have:=KN t;have:=KN f;omega
theorem KN:∀l:List aR,V8 l<=CW l
 | []=>by rw [V8,CW];exact J2 _
 | s::l=>by rw [V8,CW];have:=aiy s;have:=KN l;omega
end
theorem TL {l:List aR}(h:wS 26 l 600<=600):V8 l<=600∧aZ l<=26∧CW l<=600:=by obtain⟨b,a⟩:=WM 26 l 600 (by omega) (by omega) h;have:=KN l;exact⟨by omega,a,by omega⟩
set_option maxHeartbeats 8000000
def C67 (n fu d:Nat):Prop:=∀(m:Mem) (row:List d9) (e:Ex) (most:Int) (dp:Nat),m.Ok->m.lim<=m.nx->bF m (λ_=>True) e row->oJ e<=2000000->0<=most->most<=600->dp+d=27->
 ∃m',l7 KW fu n (.func 67) [.agg row,iV most,iV (dp:Int)] m=some [⟨iV (wX d e most),m'⟩]∧Ext m m'
theorem ZW {n fu d dp:Nat}(O:dp+d=26)(u:C67 n fu d){most:Int}(T:most<=600){m:Mem}{p:Nat}(hm:m.Ok)(hp:p<m.nx)(Q:m.lim<=m.nx){R:List d9}{k0 n0:Int}{s0:List UInt8}{v:d9}{rows:List (List d9)}(F:m.get p=some (o8 (r4 k0 n0 s0 v)))(a:List Ex)(s:gM m (λ_=>True) 4 v rows)(D:H6 m (λ_=>True) a rows)(V:S9 a<=2000000):
  ∀(j i:Nat),i+j=a.length->∀(x:Int) (c:d9) (M:Mem) (N:Nat),Ext m M->0<=x->x<=601->most-x+2<=(N:Int)->1<=N->
  ∃i' c' M',A9 (λenv m k=>IW (l7 KW fu n) fu none env m k) N (Ya (.agg R) (iV (dp:Int)) ff (iV most) (iV (i:Int)) (.ptr p 0) (iV x) c (iV 0)) M [] =
   some [⟨.exit 0,(Ya (.agg R) (iV (dp:Int)) ff (iV most) (iV i') (.ptr p 0) (.int .i64 (eX (wX d) (a.drop i) x most)) c' (iV 0)),M',[],none⟩]∧Ext m M':=by
 have o:=H6.len D;have b:=s.slice.len;rw [o] at b;have S:=O0 a;have cv:=s.slice.cells;have ov:=s.slice.r9;intro j;induction j with
 | zero=>
  intro i P x c M N E B C L z;obtain⟨N,rfl⟩:∃k,N=k+1:=⟨N-1,by omega⟩;obtain rfl:i=a.length:=by omega
  have f:=(E.old p hp).trans F;refine⟨(a.length:Int),.bool false,M,?_,E⟩;rw [l8,abx,eX];simp [IW,f,b]
 | succ j ih=>
  intro i P x c M N E B C L z;obtain⟨N,rfl⟩:∃k,N=k+1:=⟨N-1,by omega⟩;have e:i<a.length:=by omega
  have g:i<rows.length:=by omega
  have h:(i:Int)<(a.length:Int):=by omega
  have K:=E.ok;have w:M.lim<=M.nx:=by rw [E.lim];exact aA Q E.nx
  have f:=(E.old p hp).trans F;have A:a.drop i=a[i]::a.drop (i+1):=Xl e;rw [A,eX];by_cases hx:x<=most;obtain⟨Y,o1,G,a2,a3,H,a5⟩:=(s.slice.ext E).at g;have l:=H6.get D i e g;have W:=l.row;have r:=H 0 4 (by omega) (by omega);rw [q9,Xb (by omega),Y3] at r;have U:=dN a i e;have q:bF M (λ_=>True) a[i] rows[i]:=Cu E l;generalize hX:a[i]=X at *;generalize hR:rows[i]=R1 at *;obtain⟨Z,I,E2⟩:=u M R1 X (most-x) (dp+1) K w q (by omega) (by omega) (by omega) (by omega);have hw:=FM d X (most-x) (by omega);generalize wX d X (most-x)=y at *;obtain⟨i',c',M',J,q1⟩:=ih (i+1) (by omega) (x+y) tt Z N (E.trans E2) (by omega) (by omega) (by omega) (by omega);refine⟨i',c',M',?_,q1⟩;rw [if_pos hx];have w1:jA (most-x)=most-x:=M0 (by omega) (by omega);have w2:jA ((dp:Int)+1)=(dp:Int)+1:=M0 (by omega) (by omega);have w3:jA (x+y)=x+y:=M0 (by omega) (by omega);have t:l7 KW fu n (.func 67) [.agg R1,iV (most-x),.int .i64 ((dp:Int)+1)] M=_:=I;rw [l8,← J];simp [IW,f,b,e,h,hx,G,r,t,w1,w2,w3,J7 (i:=i) (by omega)];refine⟨(i:Int),.bool false,M,?_,E⟩;rw [if_neg hx,l8];simp [IW,f,b,e,h,hx]
theorem adR (fu:Nat)(J:20000<=fu):∀d n:Nat,d<=27->d+1<=n->C67 n fu d:=by
 intro d;induction d with
 | zero=>
  intro n I L m C e most dp q u h F H t z;obtain⟨n,rfl⟩:∃k,n=k+1:=⟨n-1,by omega⟩;obtain rfl:dp=27:=by omega
  obtain⟨j,l,o,a⟩:=e;obtain⟨v,s,rfl,b,D⟩:=h;have B:=b.slice.r9;have w:=b.slice.cells;have N:jA (most+1)=most+1:=M0 (by omega) (by omega);refine⟨ext m [o8 (r4 j l o v)],?_,H7 q _⟩;rw [enter (sf:=f67) rfl rfl];simp [f67,P5 q u,r9,wX,N,B,w]
 | succ d ih=>
  intro n I L m C e most dp q u h F H A z;obtain⟨n,rfl⟩:∃k,n=k+1:=⟨n-1,by omega⟩;obtain⟨j,l,o,a⟩:=e;obtain⟨v,s,rfl,t,D⟩:=h;have B:=t.slice.r9;have w:=t.slice.cells;rw [oJ] at F;have E:=H7 q [o8 (r4 j l o v)];have b:=gM.mono (m':=ext m [o8 (r4 j l o v)]) t E.nx (λi K _=>E.old i K) (S':=λ_=>True) λ_ _ h=>h;have y:=CV E D;obtain⟨P,O,M',g,M⟩:=ZW (n:=n) (d:=d) (dp:=dp) (p:=m.nx) (R:=(r4 j l o v)) (most:=most) (by omega) (ih n (by omega) (by omega)) A E.ok (by simp) (by rw [E.lim];exact aA u E.nx) (by rw [u7 q];rfl) a b y (by omega) a.length 0 (by omega) 1 .undef (_) fu (Ext.refl E.ok) (by omega) (by omega) (by omega) (by omega);have G:A9 (λx m k=>IW (l7 KW fu n) fu none x m k) fu (Ya (.agg (r4 j l o v)) (iV (dp:Int)) ff (iV most) (iV 0) (.ptr m.nx 0) (iV 1) .undef (iV 0)) (ext m [o8 (r4 j l o v)]) []=_:=g;refine⟨M',?_,E.trans M⟩;have r:decide (26<(dp:Int))=false:=decide_eq_false (by omega);have c:¬ (26<(dp:Int)):=by omega
  have f:¬ (26<dp):=by omega
  rw [enter (sf:=f67) rfl rfl,wX,FL];simp [f67,P5 q u,r9,G,B,w,r,c,f]
theorem TP {n fu d dp:Nat}(Y:dp+d=26)(z:C67 n fu d){most:Int}(a6:most<=600){m:Mem}(hm:m.Ok)(Z:m.lim<=m.nx){v:d9}{rows:List (List d9)}(I:gM m (λ_=>True) 5 v rows){i:Nat}(K:i<rows.length)
  {k0:Int} {s0:List UInt8} {L vt vf:d9} (J:rows[i]=(r5 k0 s0 L vt vf)) {t:List (List d9)} (a:List Ex) (g1:gM m (λ_=>True) 4 L t) (H:H6 m (λ_=>True) a t) (a8:S9 a<=2000000) (G:d9):
  ∀(j q:Nat),q+j=a.length->∀(x:Int) (c:d9) (M:Mem) (N:Nat),Ext m M->0<=x->most-x+2<=(N:Int)->1<=N->
  ∃k' c' M',A9 (λenv m k=>IK (l7 KW fu n) fu none env m k) N (yu (iV (dp:Int)) ff (iV most) (iV (i:Int)) v (iV x) G (iV (q:Int)) c (iV 0)) M [] =
   some [⟨.exit 2,(yu (iV (dp:Int)) ff (iV most) (iV (i:Int)) v (.int .i64 (eX (wX d) (a.drop q) x most)) G k' c' (iV 0)),M',[],none⟩]∧Ext m M':=by
 have o:=H6.len H;have b:=g1.slice.len;rw [o] at b;have a0:=O0 a;intro j;induction j with
 | zero=>
  intro q hq x c M N E D W B;obtain⟨N,rfl⟩:∃k,N=k+1:=⟨N-1,by omega⟩;obtain rfl:q=a.length:=by omega
  obtain⟨F,o1,u,O,P,Q,r⟩:=(I.slice.ext E).at K;rw [J] at r;have f:=r 2 (by omega);refine⟨iV (a.length:Int),.bool false,M,?_,E⟩;rw [l8,abx,eX];simp [IK,u,f,b]
 | succ j ih=>
  intro q hq x c M N E D W B;obtain⟨N,rfl⟩:∃k,N=k+1:=⟨N-1,by omega⟩;have e:q<a.length:=by omega
  have g:q<t.length:=by omega
  have h:(q:Int)<(a.length:Int):=by omega
  have V:=E.ok;have A:M.lim<=M.nx:=by rw [E.lim];exact aA Z E.nx
  obtain⟨F,o1,u,O,P,Q,r⟩:=(I.slice.ext E).at K;rw [J] at r;have f:=r 2 (by omega);have C:a.drop q=a[q]::a.drop (q+1):=Xl e;rw [C,eX];by_cases hx:x<=most;obtain⟨a9,o2,R,b2,b3,S,b5⟩:=(g1.slice.ext E).at g;have l:=H6.get H q e g;have s:=S 0 4 (by omega) (by omega);rw [q9,Xb (by have:=l.row;omega),Y3] at s;have a7:=dN a q e;have p:bF M (λ_=>True) a[q] t[q]:=Cu E l;generalize hX:a[q]=X at *;generalize hR1:t[q]=R1 at *;obtain⟨m2,T,E2⟩:=z M R1 X (most-x) (dp+1) V A p (by omega) (by omega) (by omega) (by omega);have hw:=FM d X (most-x) (by omega);generalize wX d X (most-x)=y at *;obtain⟨k',c',M',U,q1⟩:=ih (q+1) (by omega) (x+y) tt m2 N (E.trans E2) (by omega) (by omega) (by omega);refine⟨k',c',M',?_,q1⟩;rw [if_pos hx];have w1:jA (most-x)=most-x:=M0 (by omega) (by omega);have w2:jA ((dp:Int)+1)=(dp:Int)+1:=M0 (by omega) (by omega);have w3:jA (x+y)=x+y:=M0 (by omega) (by omega);have w:l7 KW fu n (.func 67) [.agg R1,iV (most-x),.int .i64 ((dp:Int)+1)] M=_:=T;rw [l8,← U];simp [IK,u,f,b,e,h,hx,R,s,w,w1,w2,w3,J7 (i:=q) (by omega)];refine⟨iV (q:Int),.bool false,M,?_,E⟩;rw [if_neg hx,l8];simp [IK,u,f,b,e,h,hx]
theorem ig (n:Nat)(s:By):aB (n+1) (.str s) (.str s)=true:=by show strEq s s=true;rw [gU];simp
theorem jI {m:Mem}{rs:Nat}{v:d9}{l:List (List d9)}(h:gK m rs v l)(n:Nat):aB (n+1) v v=true:=by rcases h with⟨rfl,_⟩ | ⟨id,o,⟨c,rfl,_⟩ | rfl,_⟩;rfl;show bi (Nat.beq id id) (bi (Nat.beq _ _) (bi (Nat.beq _ _) (Nat.beq _ _) false) false) false=true;simp [iE];show bi (Nat.beq id id) (bi (Nat.beq _ _) (bi (Nat.beq _ _) (Nat.beq _ _) false) false) false=true;simp [iE]
theorem adS {n:Nat}(h:n<=9000000000):OH .i64 (n:Int) 100=some (.int .i64 ((n / 100:Nat):Int)):=by show some (d9.int .i64 (jA ((n / 100:Nat):Int)))=_;rw [M0 (by omega) (by omega)]
def C32 (n fu d:Nat):Prop:=∀(m:Mem) (v:d9) (l:List aR) (most:Int) (dp:Nat),m.Ok->m.lim<=m.nx->R4 m (λ_=>True) l v->V8 l<=2000000->tK l<=4000000000->0<=most->most<=600->dp+d=27->
 ∃m',l7 KW fu n (.func 32) [v,iV most,iV (dp:Int)] m=some [⟨iV (wS d l most),m'⟩]∧Ext m m'
theorem Oc:∀(l:List aR) (i:Nat) (h:i<l.length),vS l[i]<=tK l
 | e::l,0,h=>by simp [tK]
 | e::l,i+1,h=>by have:=Oc l i (by simpa using h);simp [tK];omega
theorem ZX {n fu d dp:Nat}(a6:20000<=fu)(Q:dp+d=26)(J:C67 n fu d)(A:C32 n fu d){most:Int}(S:most<=600){m:Mem}(hm:m.Ok)(R:m.lim<=m.nx){v:d9}{rows:List (List d9)}(l:List aR)(w:gM m (λ_=>True) 5 v rows)(h2:I4 m (λ_=>True) l rows)(a9:V8 l<=2000000)(a0:tK l<=4000000000):
  ∀(j i:Nat),i+j=l.length->∀(x:Int) (c6 k c8:d9) (M:Mem) (N:Nat),Ext m M->0<=x->most-x+2<=(N:Int)->1<=N->
  ∃i' c6' k' c8' M',A9 (λenv m k=>IL (l7 KW fu n) fu none env m k) N (yu (iV (dp:Int)) ff (iV most) (iV (i:Int)) v (iV x) c6 k c8 (iV 0)) M [] =
   some [⟨.exit 0,(yu (iV (dp:Int)) ff (iV most) (iV i') v (.int .i64 (TK (wS d) (wX d) (l.drop i) x most)) c6' k' c8' (iV 0)),M',[],none⟩]∧Ext m M':=by
 have p:=I4.len h2;have b:=w.slice.len;rw [p] at b;have a8:=V5 l;intro j;induction j with
 | zero=>
  intro i hi x c6 k c8 M N E U hN L;obtain⟨N,rfl⟩:∃k,N=k+1:=⟨N-1,by omega⟩;obtain rfl:i=l.length:=by omega
  refine⟨(l.length:Int),.bool false,k,c8,M,?_,E⟩;rw [l8,abx,TK];simp [IL,b]
 | succ j ih=>
  intro i hi x c6 k c8 M N E U hN L;obtain⟨N,rfl⟩:∃k,N=k+1:=⟨N-1,by omega⟩;have c:i<l.length:=by omega
  have a:i<rows.length:=by omega
  have h:(i:Int)<(l.length:Int):=by omega
  have hM:=E.ok;have K:M.lim<=M.nx:=by rw [E.lim];exact aA R E.nx
  have P:l.drop i=l[i]::l.drop (i+1):=Xl c;rw [P,TK];by_cases hx:x<=most;rw [if_pos hx];have B:=I4.get h2 i c a;have T:=kF l i c;have O:=Oc l i c;generalize hX:l[i]=X at *;obtain⟨k0,F,e,t,f⟩:=X;obtain⟨ve,vt,vf,re,rt,rf,D,e1,e2,t1,t2,Z,f2⟩:=B;rw [stP] at T;rw [vS] at O;have tM:R4 M (λ_=>True) t vt:=R4.ext ⟨rt,t1,t2⟩ E;obtain⟨W,g2,E2⟩:=A M vt t (most-x) (dp+1) hM K tM (by omega) (by omega) (by omega) (by omega) (by omega);have E2':=E.trans E2;have fM:R4 W (λ_=>True) f vf:=R4.ext ⟨rf,Z,f2⟩ E2';obtain⟨m3,g3,E3⟩:=A W vf f (most-x) (dp+1) E2.ok (by rw [E2'.lim];exact aA R E2'.nx) fM (by omega) (by omega) (by omega) (by omega) (by omega);have E3':=E2'.trans E3;have ht:=Jg d t (most-x) (by omega) (by omega);have hf:=Jg d f (most-x) (by omega) (by omega);simp only [stN,stE,stT,stF];generalize wS d t (most-x)=y at *;generalize wS d f (most-x)=z at *;have hq:F.length / 100<=F.length:=Nat.div_le_self _ _;have qq:=adS (n:=F.length) (by omega);generalize F.length / 100=q0 at *;obtain⟨k',c',M4,g4,E4⟩:=TP (n:=n) (fu:=fu) (d:=d) (dp:=dp) Q J S hm R w a D e e1 e2 (by omega) tt e.length 0 (by omega) (x+1+(q0:Int)+y+z) c8 m3 fu E3' (by omega) (by omega) (by omega);have a7:=Bw d e (x+1+(q0:Int)+y+z) most;rw [q9] at g4;generalize eX (wX d) e (x+1+(q0:Int)+y+z) most=r at *;obtain⟨i',c6',V,c8',M',gg,q1⟩:=ih (i+1) (by omega) r tt k' c' M4 N E4 (by omega) (by omega) (by omega);refine⟨i',c6',V,c8',M',?_,q1⟩;obtain⟨aa,o1,Y,a2,a3,a4,C⟩:=(w.slice.ext E).at a;rw [D] at C;have b3:=C 3 (by omega);obtain⟨ab,o2,q,_,_,_,o⟩:=(w.slice.ext E2').at a;rw [D] at o;have b4:=o 4 (by omega);obtain⟨ac,o3,g,_,_,_,u⟩:=(w.slice.ext E3').at a;rw [D] at u;have b1:=u 1 (by omega);rw [Y] at q g;cases q;cases g;have d1:=C 1 (by omega);have d4:=C 4 (by omega);have d2:=o 1 (by omega)
  have ss:∀s:List UInt8,aB 100 (.str s) (.str s)=true:=λs=>ig 99 s;have sf:aB 100 vf vf=true:=jI Z.slice 99;have w1:jA (most-x)=most-x:=M0 (by omega) (by omega);have w2:jA ((dp:Int)+1)=(dp:Int)+1:=M0 (by omega) (by omega);have w3:jA (x+1)=x+1:=M0 (by omega) (by omega);have w4:jA (x+1+(q0:Int))=x+1+(q0:Int):=M0 (by omega) (by omega);have w5:jA (x+1+(q0:Int)+y)=x+1+(q0:Int)+y:=M0 (by omega) (by omega);have w6:jA (x+1+(q0:Int)+y+z)=x+1+(q0:Int)+y+z:=M0 (by omega) (by omega);have G:l7 KW fu n (.func 32) [vt,iV (most-x),.int .i64 ((dp:Int)+1)] M=_:=g2;have H:l7 KW fu n (.func 32) [vf,iV (most-x),.int .i64 ((dp:Int)+1)] W=_:=g3;have I:A9 (λenv m k=>IK (l7 KW fu n) fu none env m k) fu (yu (iV (dp:Int)) ff (iV most) (iV (i:Int)) v (.int .i64 (x+1+(q0:Int)+y+z)) tt (iV 0) c8 (iV 0)) m3 []=_:=g4;rw [l8,← gg];simp [IL,b,c,h,hx,Y,b3,b4,b1,G,H,I,w1,w2,w3,w4,w5,w6,d1,d2,d4,ss,sf,qq,J7 (i:=i) (by omega)];refine⟨(i:Int),.bool false,k,c8,M,?_,E⟩;rw [if_neg hx,l8];simp [IL,b,c,h,hx]
theorem adT (fu:Nat)(e:20000<=fu):∀d n:Nat,d<=27->d+1<=n->C32 n fu d:=by
 intro d;induction d with
 | zero=>
  intro n z A m v l most dp c f h r q x p j;obtain⟨n,rfl⟩:∃k,n=k+1:=⟨n-1,by omega⟩;obtain rfl:dp=27:=by omega
  have C:jA (most+1)=most+1:=M0 (by omega) (by omega);refine⟨m,?_,Ext.refl c⟩;rw [enter (sf:=f32) rfl rfl];simp [f32,P5 c f,r9,wS,C]
 | succ d ih=>
  intro n z A m v l most dp c f h r q x o j;obtain⟨n,rfl⟩:∃k,n=k+1:=⟨n-1,by omega⟩;obtain⟨s,p,y⟩:=h;obtain⟨D,t,E,u,M',g,B⟩:=ZX (n:=n) (d:=d) (dp:=dp) (most:=most) e (by omega) (adR fu e d n (by omega) (by omega)) (ih n (by omega) (by omega)) o c f l p y r q l.length 0 (by omega) 0 .undef .undef .undef m fu (Ext.refl c) (by omega) (by omega) (by omega);have w:A9 (λi m k=>IL (l7 KW fu n) fu none i m k) fu (yu (iV (dp:Int)) ff (iV most) (iV 0) v (iV 0) .undef .undef .undef (iV 0)) m []=_:=g;refine⟨M',?_,B⟩;have a:¬ (26<(dp:Int)):=by omega
  have b:¬ (26<dp):=by omega
  rw [enter (sf:=f32) rfl rfl,wS];simp [f32,P5 c f,r9,w,a,b]
theorem adU {n fu:Nat}(p:28<=n)(e:20000<=fu){m:Mem}(c:m.Ok)(f:m.lim<=m.nx){v:d9}{l:List aR}(h:R4 m (λ_=>True) l v)(hp:V8 l<=2000000)(hb:tK l<=4000000000):
  ∃m',l7 KW fu (n+1) (.func 13) [v] m=some [⟨.bool (decide (l.length<=520)&&decide (wS 26 l 600<=600)),m'⟩]∧Ext m m':=by
 obtain⟨o,i,E1⟩:=adT fu e 26 n (by omega) (by omega) m v l 600 1 c f h hp hb (by omega) (by omega) (by omega);have d:l7 KW fu n (.func 32) [v,iV 600,iV 1] m=_:=i;obtain⟨g,j,k⟩:=h;have a:=j.slice.len;rw [I4.len k] at a;by_cases h5:l.length<=520;refine⟨o,?_,E1⟩;have b:(l.length:Int)<=520:=by omega
 rw [enter (sf:=f13) rfl rfl];simp [f13,P5 c f,r9,a,h5,b,d];refine⟨m,?_,Ext.refl c⟩;have b:¬ (l.length:Int)<=520:=by omega
 rw [enter (sf:=f13) rfl rfl];simp [f13,P5 c f,r9,a,h5,b]
def Aj (s:By):Bool:=!s.isEmpty&&decide (s.length<=16)&&su (s.headD 0)&&s.all Gh && !CX s
theorem WW {m:Mem}(a:m.Ok)(s:By)(n fu:Nat)(b:2000<=fu):∃m',l7 KW fu (n+2) (.func 101) [.str s] m=some [⟨.bool (CX s),m'⟩]∧Ext m m':=by
 have E:=H7 a [.cells 1 8 (T.ofList ((strs Rs).map ([·])))];have c:bK (ext m [.cells 1 8 (T.ofList ((strs Rs).map ([·])))]) (.slice m.nx 0 8 8) (strs Rs):=Bt a (strs Rs);have g:=Qd (s:=s) Rs (by decide) c n fu (by omega);have e:(Rs.any λt=>decide (s=t))=CX s:=by unfold CX;rw [List.contains_eq_any_beq];congr 1;funext t;rw [abE];simp
 rw [e] at g;refine⟨_,?_,E⟩;rw [enter (sf:=f101) rfl rfl];simp [f101,I5,J5,bs8,g]
theorem ZY {n fu:Nat}{m:Mem}(s:By)(hs:s.length<=16):
  ∀(j i:Nat),i+j=s.length->∀(c d:d9) (N:Nat),j+1<=N->
  ((s.drop i).all Gh=true∧∃c' d',A9 (λenv m k=>qP (l7 KW fu (n+1)) fu none env m k) N (GR (.str s) ff (iV (i:Int)) c d ff) m []=some [⟨.exit 0,(GR (.str s) ff (iV (s.length:Int)) c' d' ff),m,[],none⟩])∨
  ((s.drop i).all Gh=false∧∃(i':Int) (c' d':d9),A9 (λenv m k=>qP (l7 KW fu (n+1)) fu none env m k) N (GR (.str s) ff (iV (i:Int)) c d ff) m []=some [⟨.ret,(GR (.str s) ff (iV i') c' d' ff),m,[],none⟩]):=by
 intro j;induction j with
 | zero=>
  intro i v c d N t;obtain⟨N,rfl⟩:∃k,N=k+1:=⟨N-1,by omega⟩;obtain rfl:i=s.length:=by omega
  refine .inl ⟨by simp,.bool false,d,?_⟩;rw [l8];simp [qP]
 | succ j ih=>
  intro i v c d N t;obtain⟨N,rfl⟩:∃k,N=k+1:=⟨N-1,by omega⟩;have a:i<s.length:=by omega
  have b:(i:Int)<(s.length:Int):=by omega
  have q:=λx lo ls env w r=>Fq (x:=x) (lo:=lo) (ls:=ls) (env:=env) (s:=s) (l:=i) w r a;have u:s.drop i=s[i]::s.drop (i+1):=Xl a;have o:=λm=>WG s[i] n fu m;have p:=λm=>adH s[i] n fu m;rw [u,ahn];by_cases h1:su s[i]=true;have g:=ih (i+1) (by omega) tt ff N (by omega);have e:A9 (λenv m k=>qP (l7 KW fu (n+1)) fu none env m k) (N+1) (GR (.str s) ff (iV (i:Int)) c d ff) m []=A9 (λenv m k=>qP (l7 KW fu (n+1)) fu none env m k) N (GR (.str s) ff (.int .i64 ((i+1:Nat):Int)) tt ff ff) m []:=by rw [l8];simp [qP,a,b,q,o,p,h1,J7 (i:=i) (by omega)]
  rw [e];simpa [Gh,h1] using g;have f:su s[i]=false:=by simpa using h1
  by_cases h2:Bq s[i]=true;have g:=ih (i+1) (by omega) tt ff N (by omega);have e:A9 (λenv m k=>qP (l7 KW fu (n+1)) fu none env m k) (N+1) (GR (.str s) ff (iV (i:Int)) c d ff) m []=A9 (λenv m k=>qP (l7 KW fu (n+1)) fu none env m k) N (GR (.str s) ff (.int .i64 ((i+1:Nat):Int)) tt ff ff) m []:=by rw [l8];simp [qP,a,b,q,o,p,f,h2,J7 (i:=i) (by omega)]
  rw [e];simpa [Gh,f,h2] using g;have h:Bq s[i]=false:=by simpa using h2
  refine .inr ⟨by simp [Gh,f,h],(i:Int),.bool true,.bool true,?_⟩;rw [l8];simp [qP,a,b,q,o,p,f,h]
theorem Qj {n fu:Nat}(w:20000<=fu){m:Mem}(i:m.Ok)(s:By):∃m',l7 KW fu (n+3) (.func 78) [.str s] m=some [⟨.bool (Aj s),m'⟩]∧Ext m m':=by
 match s with
 | []=>refine⟨m,?_,Ext.refl i⟩;rw [enter (sf:=f78) rfl rfl];simp [f78,Aj]
 | b::t=>
  have f:¬ (((b::t).length:Nat):Int)=0:=by simp;omega
  have o:∀(x v:OF) (j:List d9) (a:T d9),x j a=.str (b::t)->v j a=.int .i64 0->tX x v j a=some (.int .u8 (b.toNat:Nat)):=λx v j a y r=>Fq (s:=b::t) (l:=0) y r (by simp);have e:=λm=>WG b (n+1) fu m;have d:¬ (b::t)=[]:=by simp
  obtain⟨z,h,E1⟩:=WW i (b::t) n fu (by omega);have u:Aj (b::t)=(decide ((b::t).length<=16)&&su b&&(b::t).all Gh && !CX (b::t)):=by simp [Aj]
  rw [u];generalize hS:b::t=S0 at *;by_cases h16:S0.length<=16;have c:¬ (16:Int)<(S0.length:Int):=by omega
  by_cases hb:su b=true;rcases ZY (n:=n+1) (fu:=fu) (m:=m) S0 h16 S0.length 0 (by omega) .undef .undef fu (by omega) with⟨ha,c',d',g⟩ | ⟨ha,i',c',d',g⟩;have p:A9 (λa m k=>qP (l7 KW fu (n+2)) fu none a m k) fu (GR (.str S0) ff (iV 0) .undef .undef ff) m []=_:=g;rw [q9] at ha;refine⟨z,?_,E1⟩;rw [enter (sf:=f78) rfl rfl];simp [f78,f,d,h16,c,o,e,hb,p,h,ha];have p:A9 (λa m k=>qP (l7 KW fu (n+2)) fu none a m k) fu (GR (.str S0) ff (iV 0) .undef .undef ff) m []=_:=g;rw [q9] at ha;refine⟨m,?_,Ext.refl i⟩;rw [enter (sf:=f78) rfl rfl];simp [f78,f,d,h16,c,o,e,hb,p,ha];have q:su b=false:=by simpa using hb
  refine⟨m,?_,Ext.refl i⟩;rw [enter (sf:=f78) rfl rfl];simp [f78,f,d,h16,c,o,e,q];have c:(16:Int)<(S0.length:Int):=by omega
  refine⟨m,?_,Ext.refl i⟩;rw [enter (sf:=f78) rfl rfl];simp [f78,f,d,h16,c,o,e]
theorem aa0 (b:UInt8)(hb:b.toNat<128)(n fu:Nat)(m:Mem):l7 KW fu (n+2) (.func 179) [.int .i32 (b.toNat:Nat)] m=some [⟨.bool (!Gh b),m⟩]:=by
 have d:=λm=>WE b n fu m;have e:=λm=>adG b n fu m;have f:¬ (127:Int)<(b.toNat:Int):=by omega
 have g:¬ 127<b.toNat:=by omega
 have c:sI .u8 ((b.toNat:Nat):Int)=((b.toNat:Nat):Int):=by show ((b.toNat:Nat):Int)%256=_;omega
 rw [enter (sf:=f179) rfl rfl];by_cases hl:su b=true;simp [f179,f,g,d,e,c,hl,Gh];have a:su b=false:=by simpa using hl
 cases hd:Bq b<;>simp [f179,f,g,d,e,c,a,hd,Gh]
theorem aa8 (r:Nat)(c:128<=r)(n fu:Nat)(m:Mem):l7 KW fu (n+2) (.func 179) [.int .i32 (r:Nat)] m=some [⟨.bool true,m⟩]:=by
 have a:(127:Int)<(r:Int):=by omega
 have b:127<r:=by omega
 rw [enter (sf:=f179) rfl rfl];simp [f179,a,b]
theorem adV:qW ff tt=some false:=rfl
theorem adW:qW tt tt=some true:=rfl
theorem WX {p:Nat}(s:By){n fu:Nat}:∀(j pos:Nat),pos<=s.length->s.length<=pos+j->∀(c t r d i:d9) (M:Mem) (N:Nat),M.Ok->M.lim<=p->p<M.nx->M.get p=some (.siter s pos)->j+1<=N->
  ((s.drop pos).all Gh=true∧∃c' t' r' d' i' M',A9 (λenv m k=>mK (l7 KW fu (n+2)) fu none env m k) N (yu (.str s) (.ptr p 0) c t (.func (.func 179) [] []) r tt d i (iV 0)) M []=some [⟨.exit 0,(yu (.str s) (.ptr p 0) c' t' (.func (.func 179) [] []) r' tt d' i' (iV 0)),M',[],none⟩]∧Fr (p+1) p M M')∨
  ((s.drop pos).all Gh=false∧∃(c' t' r' d':d9) (i':Nat) (M':Mem),A9 (λenv m k=>mK (l7 KW fu (n+2)) fu none env m k) N (yu (.str s) (.ptr p 0) c t (.func (.func 179) [] []) r tt d i (iV 0)) M []=some [⟨.ret,(yu (.str s) (.ptr p 0) c' t' (.func (.func 179) [] []) r' tt d' (iV (i':Int)) (iV (i':Int))),M',[],none⟩]∧Fr (p+1) p M M'):=by
 intro j;induction j with
 | zero=>
  intro pos C D c t r d i M N g v l y E;obtain⟨N,rfl⟩:∃k,N=k+1:=⟨N-1,by omega⟩;obtain rfl:pos=s.length:=by omega
  have f:=Jc y v;refine .inl ⟨by simp,.bool false,.tuple [.bool false],r,d,i,M,?_,Fr.refl g⟩;rw [l8];simp [mK,f]
 | succ j ih=>
  intro pos C D c t r d i M N g v l y E;obtain⟨N,rfl⟩:∃k,N=k+1:=⟨N-1,by omega⟩;by_cases he:pos=s.length;subst he;have f:=Jc y v;refine .inl ⟨by simp,.bool false,.tuple [.bool false],r,d,i,M,?_,Fr.refl g⟩;rw [l8];simp [mK,f];have h:pos<s.length:=by omega
  have f:=WH y v h;have q:s.drop pos=s[pos]::s.drop (pos+1):=Xl h;rcases Jb s pos h with⟨d1,d2⟩ | ⟨d1,d2,d3,d4,d5,d6⟩;rw [d2] at f;have b:(M.set p (.siter s (pos+1))).Ok:=Mem.Ok.set g l _;have z:(M.set p (.siter s (pos+1))).get p=some (.siter s (pos+1)):=G8 g _ l rfl;have a:Fr (p+1) p M (M.set p (.siter s (pos+1))):=⟨b,by simp,by simp,λi F A=>V7 g _ l A⟩;have o:=λm=>aa0 s[pos] d1 n fu m;rw [q,ahn];by_cases hb:Gh s[pos]=true;rw [hb] at o;have B:=ih (pos+1) (by omega) (by omega) tt (.tuple [.bool true,iV (pos:Nat),.int .i32 ((s[pos]).toNat:Nat)]) (.int .i32 ((s[pos]).toNat:Nat)) ff (iV (pos:Nat)) _ N b (by simpa using v) (by simpa using l) z (by omega);have x:A9 (λenv m k=>mK (l7 KW fu (n+2)) fu none env m k) (N+1) (yu (.str s) (.ptr p 0) c t (.func (.func 179) [] []) r tt d i (iV 0)) M []=A9 (λenv m k=>mK (l7 KW fu (n+2)) fu none env m k) N (yu (.str s) (.ptr p 0) tt (.tuple [.bool true,iV (pos:Nat),.int .i32 ((s[pos]).toNat:Nat)]) (.func (.func 179) [] []) (.int .i32 ((s[pos]).toNat:Nat)) tt ff (iV (pos:Nat)) (iV 0)) (M.set p (.siter s (pos+1))) []:=by rw [l8];simp [mK,f,o,adV,adW]
  rw [x,hb,adl];rcases B with⟨q1,c',t',r',d',i',M',q2,q3⟩ | ⟨q1,c',t',r',d',i',M',q2,q3⟩;exact .inl ⟨q1,c',t',r',d',i',M',q2,a.trans q3⟩;exact .inr ⟨q1,c',t',r',d',i',M',q2,a.trans q3⟩;have e:Gh s[pos]=false:=by simpa using hb
  rw [e] at o;refine .inr ⟨by simp [e],.bool true,.tuple [.bool true,iV (pos:Nat),.int .i32 ((s[pos]).toNat:Nat)],.int .i32 ((s[pos]).toNat:Nat),.bool true,pos,_,?_,a⟩;rw [l8];simp [mK,f,o,adV,adW];have b:(M.set p (.siter s (pos+(Utf8.decode ⟨s.toArray⟩ pos).2))).Ok:=Mem.Ok.set g l _;have a:Fr (p+1) p M (M.set p (.siter s (pos+(Utf8.decode ⟨s.toArray⟩ pos).2))):=⟨b,by simp,by simp,λi F A=>V7 g _ l A⟩;generalize (Utf8.decode ⟨s.toArray⟩ pos).2=w at *;generalize (Utf8.decode ⟨s.toArray⟩ pos).1=u at *;have o:=λm=>aa8 u d2 n fu m;have e:Gh s[pos]=false:=by unfold Gh su Bq;rw [aeJ,afz,afz];exact⟨.inr (decide_eq_false (by omega)),.inr (decide_eq_false (by omega))⟩
  refine .inr ⟨by rw [q,ahn,e];rfl,.bool true,.tuple [.bool true,iV (pos:Nat),.int .i32 (u:Nat)],.int .i32 (u:Nat),.bool true,pos,_,?_,a⟩;rw [l8];simp [mK,f,o,adV,adW]
theorem aa9 {m:Mem}(f:m.Ok)(t:m.lim<=m.nx)(s:By)(hs:s.length<=16)(n fu:Nat)(r:20000<=fu):
  ∃(i:Int) (M':Mem),l7 KW fu (n+3) (.func 228) [.str s,(.func (.func 179) [] []),.bool true] m=some [⟨iV i,M'⟩]∧Ext m M'∧(s.all Gh=true->i=-1)∧(s.all Gh=false->0<=i):=by
 have q:(m.new (.siter s 0)).Ok:=Mem.Ok.new f _;have o:∀j c b d x,x c b=.str s->CZ x j c b d=some [⟨.ptr d.nx 0,d.new (.siter s 0)⟩]:=λj c b d x u=>by show oO (x c b) _=_;rw [u];rfl
 have l:∀M',Fr (m.nx+1) m.nx (m.new (.siter s 0)) M'->Ext m M':=λM' F=>by refine⟨F.ok,aA (by simp) F.nx,F.lim,λi v=>?_⟩;rw [F.old i (by omega) (by omega),PS f _ (by omega)]
 have g:=WX (p:=m.nx) s (n:=n) (fu:=fu) s.length 0 (by omega) (by omega) .undef .undef .undef .undef .undef (m.new (.siter s 0)) fu q (by simpa using t) (by simp) (Kj f _ rfl) (by omega);rw [q9] at g;rcases g with⟨a,c',t',r',d',i',M',g,F⟩ | ⟨a,c',t',r',d',i',M',g,F⟩;have e:A9 (λb m k=>mK (l7 KW fu (n+2)) fu none b m k) fu (yu (.str s) (.ptr m.nx 0) .undef .undef (.func (.func 179) [] []) .undef tt .undef .undef (iV 0)) (m.new (.siter s 0)) []=_:=g;refine⟨-1,M',?_,l M' F,λ_=>rfl,λh=>by rw [a] at h;cases h⟩;rw [enter (sf:=f228) rfl rfl];simp [f228,o,e];have e:A9 (λb m k=>mK (l7 KW fu (n+2)) fu none b m k) fu (yu (.str s) (.ptr m.nx 0) .undef .undef (.func (.func 179) [] []) .undef tt .undef .undef (iV 0)) (m.new (.siter s 0)) []=_:=g;refine⟨(i':Int),M',?_,l M' F,(λh=>by rw [a] at h;cases h),λ_=>by omega⟩;rw [enter (sf:=f228) rfl rfl];simp [f228,o,e]
theorem Dr {n fu:Nat}(r:20000<=fu){m:Mem}(o:m.Ok)(A:m.lim<=m.nx)(s:By):∃m',l7 KW fu (n+5) (.func 104) [.str s] m=some [⟨.bool (Aj s),m'⟩]∧Ext m m':=by
 match s with
 | []=>refine⟨m,?_,Ext.refl o⟩;rw [enter (sf:=f104) rfl rfl];simp [f104,Aj,o9]
 | b::t=>
  have k:∀(x y:OF) (p:List d9) (f:T d9),x p f=.str (b::t)->y p f=.int .i64 0->tX x y p f=some (.int .u8 (b.toNat:Nat)):=λx y p f B v=>Fq (s:=b::t) (l:=0) B v (by simp);have e:=λm=>WE b (n+3) fu m;have c:¬ (b::t)=[]:=by simp
  have w:Aj (b::t)=(decide ((b::t).length<=16)&&su b&&(b::t).all Gh && !CX (b::t)):=by simp [Aj]
  rw [w];generalize hS:b::t=S0 at *;by_cases h16:S0.length<=16;have a:¬ (16:Int)<(S0.length:Int):=by omega
  by_cases hb:su b=true;obtain⟨z,d,E1⟩:=ZV o S0 (n+1) fu (by omega);by_cases hr:CX S0=true;refine⟨z,?_,E1⟩;rw [enter (sf:=f104) rfl rfl];simp [f104,c,h16,a,k,e,hb,d,hr,o9];have j:CX S0=false:=by simpa using hr
  obtain⟨i,M',h,E2,C,D⟩:=aa9 E1.ok (by rw [E1.lim];exact aA A E1.nx) S0 h16 n fu r;have g:l7 KW fu (n+4) (.func 178) [.str S0,(.func (.func 179) [] [])] z=some [⟨iV i,M'⟩]:=by rw [enter (sf:=f178) rfl rfl];simp [f178,h]
  refine⟨M',?_,E1.trans E2⟩;rw [enter (sf:=f104) rfl rfl];cases ha:S0.all Gh;have u:¬ i<0:=by have:=D ha;omega
  simp [f104,c,h16,a,k,e,hb,d,j,g,u,o9];have u:i<0:=by have:=C ha;omega
  simp [f104,c,h16,a,k,e,hb,d,j,g,u,o9];have q:su b=false:=by simpa using hb
  refine⟨m,?_,Ext.refl o⟩;rw [enter (sf:=f104) rfl rfl];simp [f104,c,h16,a,k,e,q,o9];have a:(16:Int)<(S0.length:Int):=by omega
  refine⟨m,?_,Ext.refl o⟩;rw [enter (sf:=f104) rfl rfl];simp [f104,c,h16,a,k,e,o9]
def X9 (k:Int):Int:=if k=3 then -1 else if k=1∨k=2 then 0 else if k=4∨k=5 then 1 else if 6<=k∧k<=18 then 2 else -2
mutual
def lZ:Ex->Bool
 | .mk k n s a=>decide (X9 k≠-2)&&(decide (X9 k<0)||decide ((a.length:Int)=X9 k)) &&
   (if k=1 then decide (0<=n)&&decide (n<=9007199254740992) else decide (n=0)) &&
   (if k=2∨k=3 then Aj s else decide (s=[]))&&aU a
def aU:List Ex->Bool
 | []=>true
 | e::l=>lZ e&&aU l
end
theorem aac (k:Int)(n fu:Nat)(m:Mem):l7 KW fu (n+1) (.func 117) [iV k] m=some [⟨iV (X9 k),m⟩]:=by rw [enter (sf:=f117) rfl rfl];unfold X9;by_cases h1:k=1;subst h1;simp [f117];by_cases h2:k=2;subst h2;simp [f117];by_cases h3:k=3;subst h3;simp [f117];by_cases h4:k=4;subst h4;simp [f117];by_cases h5:k=5;subst h5;simp [f117];by_cases h6:6<=k;by_cases h7:k<=18;simp [f117,h1,h2,h3,h4,h5,h6,h7];simp [f117,h1,h2,h3,h4,h5,h6,h7];simp [f117,h1,h2,h3,h4,h5,h6]
theorem aad (k:Int)(n fu:Nat)(m:Mem):l7 KW fu (n+1) (.func 181) [iV k] m=some [⟨iV (X9 k),m⟩]:=by rw [enter (sf:=f181) rfl rfl];unfold X9;by_cases h1:k=1;subst h1;simp [f181];by_cases h2:k=2;subst h2;simp [f181];by_cases h3:k=3;subst h3;simp [f181];by_cases h4:k=4;subst h4;simp [f181];by_cases h5:k=5;subst h5;simp [f181];by_cases h6:6<=k;by_cases h7:k<=18;simp [f181,h1,h2,h3,h4,h5,h6,h7];simp [f181,h1,h2,h3,h4,h5,h6,h7];simp [f181,h1,h2,h3,h4,h5,h6]
def C79 (n fu d:Nat):Prop:=∀(m:Mem) (row:List d9) (e:Ex),m.Ok->m.lim<=m.nx->bF m (λ_=>True) e row->oJ e<=10000->qx e<=d->
 ∃m',l7 KW fu n (.func 79) [.agg row] m=some [⟨.bool (lZ e),m'⟩]∧Ext m m'
theorem Dt {n fu d:Nat}(x:C79 n fu d){m:Mem}{p:Nat}(hm:m.Ok)(hp:p<m.nx)(O:m.lim<=m.nx){R:List d9}{x2 x5:d9}{k0 n0:Int}{s0:List UInt8}{v:d9}{rows:List (List d9)}(G:m.get p=some (o8 (r4 k0 n0 s0 v)))(a:List Ex)(D:gM m (λ_=>True) 4 v rows)(F:H6 m (λ_=>True) a rows)(S:S9 a<=10000)(Z:ah a<=d):
  ∀(j i:Nat),i+j=a.length->∀(c e:d9) (M:Mem) (N:Nat),Ext m M->j+1<=N->
  (aU (a.drop i)=true∧∃c' e' M',A9 (λenv m k=>mV (l7 KW fu n) fu none env m k) N (fF (.agg R) (.ptr p 0) x2 ff ff x5 ff (iV (i:Int)) c e ff) M []=some [⟨.exit 0,(fF (.agg R) (.ptr p 0) x2 ff ff x5 ff (iV (a.length:Int)) c' e' ff),M',[],none⟩]∧Ext m M')∨
  (aU (a.drop i)=false∧∃(i' c' e':d9) (M':Mem),A9 (λenv m k=>mV (l7 KW fu n) fu none env m k) N (fF (.agg R) (.ptr p 0) x2 ff ff x5 ff (iV (i:Int)) c e ff) M []=some [⟨.ret,(fF (.agg R) (.ptr p 0) x2 ff ff x5 ff i' c' e' ff),M',[],none⟩]∧Ext m M'):=by
 have r:=H6.len F;have b:=D.slice.len;rw [r] at b;have P:=O0 a;intro j;induction j with
 | zero=>
  intro i L c e M N E J;obtain⟨N,rfl⟩:∃k,N=k+1:=⟨N-1,by omega⟩;obtain rfl:i=a.length:=by omega
  have g:=(E.old p hp).trans G;refine .inl ⟨by simp [aU],.bool false,e,M,?_,E⟩;rw [l8];simp [mV,g,b]
 | succ j ih=>
  intro i L c e M N E J;obtain⟨N,rfl⟩:∃k,N=k+1:=⟨N-1,by omega⟩;have f:i<a.length:=by omega
  have h:i<rows.length:=by omega
  have l:(i:Int)<(a.length:Int):=by omega
  have I:=E.ok;have y:M.lim<=M.nx:=by rw [E.lim];exact aA O E.nx
  have g:=(E.old p hp).trans G;have z:a.drop i=a[i]::a.drop (i+1):=Xl f;rw [z,aU];obtain⟨U,o1,C,V,W,H,Y⟩:=(D.slice.ext E).at h;have o:=H6.get F i f h;have T:=o.row;have q:=H 0 4 (by omega) (by omega);rw [q9,Xb (by omega),Y3] at q;have Q:=dN a i f;have K:=kG a i f;have s:bF M (λ_=>True) a[i] rows[i]:=Cu E o;generalize hX:a[i]=X at *;generalize hR:rows[i]=R1 at *;obtain⟨B,w,E2⟩:=x M R1 X I y s (by omega) (by omega);by_cases hf:lZ X=true;rw [hf] at w;have A:=ih (i+1) (by omega) tt ff B N (E.trans E2) (by omega);have u:A9 (λenv m k=>mV (l7 KW fu n) fu none env m k) (N+1) (fF (.agg R) (.ptr p 0) x2 ff ff x5 ff (iV (i:Int)) c e ff) M []=A9 (λenv m k=>mV (l7 KW fu n) fu none env m k) N (fF (.agg R) (.ptr p 0) x2 ff ff x5 ff (.int .i64 ((i+1:Nat):Int)) tt ff ff) B []:=by rw [l8];simp [mV,g,b,f,l,C,q,w,J7 (i:=i) (by omega)]
  rw [u,hf,adl];exact A;have t:lZ X=false:=by simpa using hf
  rw [t] at w;refine .inr ⟨by rw [t];rfl,iV (i:Int),.bool true,.bool true,B,?_,E.trans E2⟩;rw [l8];simp [mV,g,b,f,l,C,q,w]
theorem adX (fu:Nat)(H:20000<=fu):∀d n:Nat,d+4<=n->C79 n fu d:=by
 intro d;induction d with
 | zero=>intro n hn m V e o r h X U;obtain⟨k0,n0,s0,a⟩:=e;rw [qx] at U;omega
 | succ d ih=>
  intro n hn m V e o r h X U;obtain⟨n,rfl⟩:∃k,n=k+4:=⟨n-4,by omega⟩;obtain⟨k0,n0,s0,a⟩:=e;obtain⟨v,Z,rfl,I,W⟩:=h;have t:=I.slice.r9;have s:=I.slice.cells;have F:=H6.len W;have c:=I.slice.len;rw [F] at c;rw [oJ] at X;rw [qx] at U;have E:=H7 o [o8 (r4 k0 n0 s0 v)];have a0:=O0 a;have b:=λm=>aac k0 (n+2) fu m;by_cases c1:X9 k0=-2;refine⟨_,?_,E⟩;rw [enter (sf:=f79) rfl rfl];simp [f79,P5 o r,r9,t,s,b,c1,lZ];by_cases G:0<=X9 k0∧¬ (a.length:Int)=X9 k0;obtain⟨G,C⟩:=G;have N:¬ X9 k0<0:=by omega
  refine⟨_,?_,E⟩;rw [enter (sf:=f79) rfl rfl];simp [f79,P5 o r,r9,t,s,b,c1,G,N,C,c,lZ];have O:¬ (0<=X9 k0∧¬ (a.length:Int)=X9 k0):=G;have f:X9 k0<0∨(a.length:Int)=X9 k0:=by omega
  by_cases C:(k0=1∧(n0<0∨9007199254740992<n0))∨(¬ k0=1∧¬ n0=0);refine⟨_,?_,E⟩;rw [enter (sf:=f79) rfl rfl];rcases C with⟨C,c4⟩ | ⟨C,c4⟩;subst C;have l:a.length=0:=by simpa [X9] using f
  have T:a=[]:=adE l;subst T;have x:X9 1=0:=rfl;by_cases c5:n0<0;have P:¬ 0<=n0:=by omega
  simp [f79,P5 o r,r9,t,s,b,x,c,lZ,c5,P];have P:0<=n0:=by omega
  have c7:9007199254740992<n0:=by omega
  have c8:¬ n0<=9007199254740992:=by omega
  simp [f79,P5 o r,r9,t,s,b,x,c,lZ,c5,P,c7,c8];rcases f with h | h;have Q:¬ 0<=X9 k0:=by omega
  simp [f79,P5 o r,r9,t,s,b,c1,h,Q,c,lZ,C,c4];have Q:0<=X9 k0:=by omega
  have S:¬ X9 k0<0:=by omega
  simp [f79,P5 o r,r9,t,s,b,c1,← h,c,lZ,C,c4];have z:=gM.mono (m':=ext m [o8 (r4 k0 n0 s0 v)]) I E.nx (λi hi _=>E.old i hi) (S':=λ_=>True) λ_ _ h=>h;have A:=CV E W;clear G O;by_cases hk2:k0=2;subst hk2;have x:X9 2=0:=rfl;have y:n0=0:=by omega
  subst y;obtain⟨B,w,E1⟩:=Qj (n:=n) H E.ok s0;have f:a.length=0:=by simpa [X9] using f
  by_cases hb:Aj s0=true
  skip
  rcases Dt (p:=m.nx) (R:=(r4 2 0 s0 v)) (x2:=.int .i64 (0)) (x5:=.bool true) (k0:=2) (n0:=0) (s0:=s0) (ih (n+3) (by omega)) E.ok (by simp) (by rw [E.lim];exact aA r E.nx) (by rw [u7 o];rfl) a z A (by omega) (by omega) a.length 0 (by omega) .undef .undef B fu E1 (by omega) with⟨l,c',e',M',g,q⟩ | ⟨l,i',c',e',M',g,q⟩;have u:A9 (λj m k=>mV (l7 KW fu (n+3)) fu none j m k) fu ((.nd (.nd (.nd (.nd .e (iV 0) .e) ff .e) (.ptr m.nx 0) (.nd (.nd .e .undef .e) tt .e)) (.agg (r4 2 0 s0 v)) (.nd (.nd (.nd .e .undef .e) ff .e) (iV (0)) (.nd (.nd .e ff .e) ff .e)))) B []=_:=g;rw [q9] at l;refine⟨M',?_,E.trans q⟩;rw [enter (sf:=f79) rfl rfl];simp [f79,P5 o r,r9,t,s,b,x,f,c,lZ,w,hb,u,l];have u:A9 (λj m k=>mV (l7 KW fu (n+3)) fu none j m k) fu ((.nd (.nd (.nd (.nd .e (iV 0) .e) ff .e) (.ptr m.nx 0) (.nd (.nd .e .undef .e) tt .e)) (.agg (r4 2 0 s0 v)) (.nd (.nd (.nd .e .undef .e) ff .e) (iV (0)) (.nd (.nd .e ff .e) ff .e)))) B []=_:=g;rw [q9] at l;refine⟨M',?_,E.trans q⟩;rw [enter (sf:=f79) rfl rfl];simp [f79,P5 o r,r9,t,s,b,x,f,c,lZ,w,hb,u,l];have D:Aj s0=false:=by simpa using hb
  refine⟨B,?_,E.trans E1⟩;rw [enter (sf:=f79) rfl rfl];simp [f79,P5 o r,r9,t,s,b,x,f,c,lZ,w,D];by_cases hk3:k0=3;subst hk3;have x:X9 3=-1:=rfl;have y:n0=0:=by omega
  subst y;obtain⟨B,w,E1⟩:=Qj (n:=n) H E.ok s0;clear f;have f:True:=trivial
  by_cases hb:Aj s0=true
  skip
  rcases Dt (p:=m.nx) (R:=(r4 3 0 s0 v)) (x2:=.int .i64 (-1)) (x5:=.bool true) (k0:=3) (n0:=0) (s0:=s0) (ih (n+3) (by omega)) E.ok (by simp) (by rw [E.lim];exact aA r E.nx) (by rw [u7 o];rfl) a z A (by omega) (by omega) a.length 0 (by omega) .undef .undef B fu E1 (by omega) with⟨l,c',e',M',g,q⟩ | ⟨l,i',c',e',M',g,q⟩;have u:A9 (λj m k=>mV (l7 KW fu (n+3)) fu none j m k) fu ((.nd (.nd (.nd (.nd .e (iV 0) .e) ff .e) (.ptr m.nx 0) (.nd (.nd .e .undef .e) tt .e)) (.agg (r4 3 0 s0 v)) (.nd (.nd (.nd .e .undef .e) ff .e) (iV (-1)) (.nd (.nd .e ff .e) ff .e)))) B []=_:=g;rw [q9] at l;refine⟨M',?_,E.trans q⟩;rw [enter (sf:=f79) rfl rfl];simp [f79,P5 o r,r9,t,s,b,x,f,c,lZ,w,hb,u,l];have u:A9 (λj m k=>mV (l7 KW fu (n+3)) fu none j m k) fu ((.nd (.nd (.nd (.nd .e (iV 0) .e) ff .e) (.ptr m.nx 0) (.nd (.nd .e .undef .e) tt .e)) (.agg (r4 3 0 s0 v)) (.nd (.nd (.nd .e .undef .e) ff .e) (iV (-1)) (.nd (.nd .e ff .e) ff .e)))) B []=_:=g;rw [q9] at l;refine⟨M',?_,E.trans q⟩;rw [enter (sf:=f79) rfl rfl];simp [f79,P5 o r,r9,t,s,b,x,f,c,lZ,w,hb,u,l];have D:Aj s0=false:=by simpa using hb
  refine⟨B,?_,E.trans E1⟩;rw [enter (sf:=f79) rfl rfl];simp [f79,P5 o r,r9,t,s,b,x,f,c,lZ,w,D];by_cases hk1:k0=1;subst hk1;have x:X9 1=0:=rfl;have f:a.length=0:=by simpa [X9] using f
  have J:0<=n0:=by omega
  have K:¬ n0<0:=by omega
  have L:n0<=9007199254740992:=by omega
  have M:¬ 9007199254740992<n0:=by omega
  by_cases hs:s0=[];subst hs;rcases Dt (p:=m.nx) (R:=(r4 1 n0 [] v)) (x2:=.int .i64 (0)) (x5:=.bool false) (k0:=1) (n0:=n0) (s0:=[]) (ih (n+3) (by omega)) E.ok (by simp) (by rw [E.lim];exact aA r E.nx) (by rw [u7 o];rfl) a z A (by omega) (by omega) a.length 0 (by omega) .undef .undef (ext m [o8 (r4 1 n0 [] v)]) fu (Ext.refl E.ok) (by omega) with⟨l,c',e',M',g,q⟩ | ⟨l,i',c',e',M',g,q⟩;have u:A9 (λj m k=>mV (l7 KW fu (n+3)) fu none j m k) fu ((.nd (.nd (.nd (.nd .e (iV 0) .e) ff .e) (.ptr m.nx 0) (.nd (.nd .e .undef .e) ff .e)) (.agg (r4 1 n0 [] v)) (.nd (.nd (.nd .e .undef .e) ff .e) (iV (0)) (.nd (.nd .e ff .e) ff .e)))) (ext m [o8 (r4 1 n0 [] v)]) []=_:=g;rw [q9] at l;refine⟨M',?_,E.trans q⟩;rw [enter (sf:=f79) rfl rfl];simp [f79,P5 o r,r9,t,s,b,c,lZ,o9,x,f,J,K,L,M,u,l];have u:A9 (λj m k=>mV (l7 KW fu (n+3)) fu none j m k) fu ((.nd (.nd (.nd (.nd .e (iV 0) .e) ff .e) (.ptr m.nx 0) (.nd (.nd .e .undef .e) ff .e)) (.agg (r4 1 n0 [] v)) (.nd (.nd (.nd .e .undef .e) ff .e) (iV (0)) (.nd (.nd .e ff .e) ff .e)))) (ext m [o8 (r4 1 n0 [] v)]) []=_:=g;rw [q9] at l;refine⟨M',?_,E.trans q⟩;rw [enter (sf:=f79) rfl rfl];simp [f79,P5 o r,r9,t,s,b,c,lZ,o9,x,f,J,K,L,M,u,l];refine⟨_,?_,E⟩;rw [enter (sf:=f79) rfl rfl];simp [f79,P5 o r,r9,t,s,b,c,lZ,o9,x,f,J,K,L,M,hs];have y:n0=0:=by omega
  subst y;have Y:0<X9 k0:=by unfold X9 at c1 ⊢;rw [if_neg hk3,if_neg (by omega)] at c1 ⊢;by_cases z1:k0=4∨k0=5;rw [if_pos z1];omega;rw [if_neg z1] at c1 ⊢;by_cases z2:6<=k0∧k0<=18;rw [if_pos z2];omega;rw [if_neg z2] at c1;exact absurd rfl c1
  have h:(a.length:Int)=X9 k0:=by omega
  have Q:0<=X9 k0:=by omega
  have S:¬ X9 k0<0:=by omega
  by_cases hs:s0=[];subst hs;rcases Dt (p:=m.nx) (R:=(r4 k0 0 [] v)) (x2:=.int .i64 (a.length:Int)) (x5:=.bool false) (k0:=k0) (n0:=0) (s0:=[]) (ih (n+3) (by omega)) E.ok (by simp) (by rw [E.lim];exact aA r E.nx) (by rw [u7 o];rfl) a z A (by omega) (by omega) a.length 0 (by omega) .undef .undef (ext m [o8 (r4 k0 0 [] v)]) fu (Ext.refl E.ok) (by omega) with⟨l,c',e',M',g,q⟩ | ⟨l,i',c',e',M',g,q⟩;have u:A9 (λj m k=>mV (l7 KW fu (n+3)) fu none j m k) fu ((.nd (.nd (.nd (.nd .e (iV 0) .e) ff .e) (.ptr m.nx 0) (.nd (.nd .e .undef .e) ff .e)) (.agg (r4 k0 0 [] v)) (.nd (.nd (.nd .e .undef .e) ff .e) (iV (a.length:Int)) (.nd (.nd .e ff .e) ff .e)))) (ext m [o8 (r4 k0 0 [] v)]) []=_:=g;rw [q9] at l;refine⟨M',?_,E.trans q⟩;rw [enter (sf:=f79) rfl rfl];simp [f79,P5 o r,r9,t,s,b,c,lZ,o9,c1,← h,hk1,hk2,hk3,u,l];have u:A9 (λj m k=>mV (l7 KW fu (n+3)) fu none j m k) fu ((.nd (.nd (.nd (.nd .e (iV 0) .e) ff .e) (.ptr m.nx 0) (.nd (.nd .e .undef .e) ff .e)) (.agg (r4 k0 0 [] v)) (.nd (.nd (.nd .e .undef .e) ff .e) (iV (a.length:Int)) (.nd (.nd .e ff .e) ff .e)))) (ext m [o8 (r4 k0 0 [] v)]) []=_:=g;rw [q9] at l;refine⟨M',?_,E.trans q⟩;rw [enter (sf:=f79) rfl rfl];simp [f79,P5 o r,r9,t,s,b,c,lZ,o9,c1,← h,hk1,hk2,hk3,u,l];refine⟨_,?_,E⟩;rw [enter (sf:=f79) rfl rfl];simp [f79,P5 o r,r9,t,s,b,c,lZ,o9,c1,← h,hk1,hk2,hk3,hs]
def WY (n fu d:Nat):Prop:=∀(m:Mem) (row:List d9) (e:Ex),m.Ok->m.lim<=m.nx->bF m (λ_=>True) e row->oJ e<=10000->qx e<=d->
 ∃m',l7 KW fu n (.func 108) [.agg row] m=some [⟨.bool (lZ e),m'⟩]∧Ext m m'
def CG (g:FuncId)(n fu d:Nat):Prop:=∀(m:Mem) (row:List d9) (e:Ex),m.Ok->m.lim<=m.nx->bF m (λ_=>True) e row->oJ e<=10000->qx e<=d->
 ∃m',l7 KW fu n (.func g) [.agg row] m=some [⟨.bool (!lZ e),m'⟩]∧Ext m m'
theorem aae {n fu d:Nat}(b:WY n fu d):CG 182 (n+1) fu d:=by
 intro m a e k j h o l;have p:=h.row;obtain⟨c,f⟩:=p;have E:=H7 k [o8 a];obtain⟨q,g,E1⟩:=b (ext m [o8 a]) a e E.ok (by rw [E.lim];exact aA j E.nx) (Cu E h) o l;refine⟨q,?_,E.trans E1⟩;have i:ES (some (o8 a)) 0 4=some (.agg a):=by rw [ku (by omega) (by omega),q9,Xb (by omega)]
 rw [enter (sf:=f182) rfl rfl];simp [f182,P5 k j,r9,c,f,i,g]
theorem wh {n fu d:Nat}(b:WY n fu d):CG 107 (n+1) fu d:=by
 intro m a e k j h o l;have p:=h.row;obtain⟨c,f⟩:=p;have E:=H7 k [o8 a];obtain⟨q,g,E1⟩:=b (ext m [o8 a]) a e E.ok (by rw [E.lim];exact aA j E.nx) (Cu E h) o l;refine⟨q,?_,E.trans E1⟩;have i:ES (some (o8 a)) 0 4=some (.agg a):=by rw [ku (by omega) (by omega),q9,Xb (by omega)]
 rw [enter (sf:=f107) rfl rfl];simp [f107,P5 k j,r9,c,f,i,g]
theorem WZ {cl:FuncId}{n fu d:Nat}(G:CG cl (n+1) fu d){m:Mem}(U:m.Ok)(I:m.lim<=m.nx){v:d9}{rows:List (List d9)}(a:List Ex)(B:gM m (λ_=>True) 4 v rows)(z:H6 m (λ_=>True) a rows)(L:S9 a<=10000)(T:ah a<=d):
  ∀(j i:Nat),i+j=a.length->∀(c k b:d9) (M:Mem) (N:Nat),Ext m M->j+1<=N->
  (aU (a.drop i)=true∧∃c' k' b' M',A9 (λenv m k=>qo (l7 KW fu (n+1)) fu none env m k) N (Ai v (iV (i:Int)) (iV (a.length:Int)) c (.func (.func cl) [] []) k b (iV 0)) M []=some [⟨.exit 0,(Ai v (iV (a.length:Int)) (iV (a.length:Int)) c' (.func (.func cl) [] []) k' b' (iV 0)),M',[],none⟩]∧Ext m M')∨
  (aU (a.drop i)=false∧∃(i' c' k' b':d9) (r':Nat) (M':Mem),A9 (λenv m k=>qo (l7 KW fu (n+1)) fu none env m k) N (Ai v (iV (i:Int)) (iV (a.length:Int)) c (.func (.func cl) [] []) k b (iV 0)) M []=some [⟨.ret,(Ai v i' (iV (a.length:Int)) c' (.func (.func cl) [] []) k' b' (iV (r':Int))),M',[],none⟩]∧Ext m M'):=by
 have u:=H6.len z;have J:=O0 a;intro j;induction j with
 | zero=>
  intro i H c k b M N E D;obtain⟨N,rfl⟩:∃k,N=k+1:=⟨N-1,by omega⟩;obtain rfl:i=a.length:=by omega
  refine .inl ⟨by simp [aU],.bool false,k,b,M,?_,E⟩;rw [l8];simp [qo]
 | succ j ih=>
  intro i H c k b M N E D;obtain⟨N,rfl⟩:∃k,N=k+1:=⟨N-1,by omega⟩;have e:i<a.length:=by omega
  have f:i<rows.length:=by omega
  have g:(i:Int)<(a.length:Int):=by omega
  have C:=E.ok;have s:M.lim<=M.nx:=by rw [E.lim];exact aA I E.nx
  have t:a.drop i=a[i]::a.drop (i+1):=Xl e;rw [t,aU];obtain⟨P,V,y,Q,R,A,S⟩:=(B.slice.ext E).at f;have h:=H6.get z i e f;have O:=h.row;have l:=A 0 4 (by omega) (by omega);rw [q9,Xb (by omega),Y3] at l;have K:=dN a i e;have F:=kG a i e;have o:bF M (λ_=>True) a[i] rows[i]:=Cu E h;generalize hX:a[i]=X at *;generalize hR:rows[i]=R1 at *;obtain⟨x,r,E2⟩:=G M R1 X C s o (by omega) (by omega);by_cases hf:lZ X=true;rw [hf] at r;have w:=ih (i+1) (by omega) tt (iV (i:Int)) ff x N (E.trans E2) (by omega);have q:A9 (λenv m k=>qo (l7 KW fu (n+1)) fu none env m k) (N+1) (Ai v (iV (i:Int)) (iV (a.length:Int)) c (.func (.func cl) [] []) k b (iV 0)) M []=A9 (λenv m k=>qo (l7 KW fu (n+1)) fu none env m k) N (Ai v (.int .i64 ((i+1:Nat):Int)) (iV (a.length:Int)) tt (.func (.func cl) [] []) (iV (i:Int)) ff (iV 0)) x []:=by rw [l8];simp [qo,e,g,y,l,r,J7 (i:=i) (by omega)]
  rw [q,hf,adl];exact w;have p:lZ X=false:=by simpa using hf
  rw [p] at r;refine .inr ⟨by rw [p];rfl,iV (i:Int),.bool true,iV (i:Int),.bool true,i,x,?_,E.trans E2⟩;rw [l8];simp [qo,e,g,y,l,r]
theorem yB {cl:FuncId}{n fu d:Nat}(u:20000<=fu)(w:CG cl (n+1) fu d){m:Mem}(p:m.Ok)(x:m.lim<=m.nx){v:d9}(a:List Ex)(h:iZ m (λ_=>True) a v)(l:S9 a<=10000)(t:ah a<=d):
  ∃m',l7 KW fu (n+3) (.func 106) [v,(.func (.func cl) [] [])] m=some [⟨.bool (!aU a),m'⟩]∧Ext m m':=by
 obtain⟨s,j,o⟩:=h;have f:=H6.len o;have c:=j.slice.len;rw [f] at c;have y:=O0 a;have r:=Us j.slice;rcases WZ (n:=n) (fu:=fu) w p x a j o l t a.length 0 (by omega) .undef .undef .undef m fu (Ext.refl p) (by omega) with⟨ha,c',k',b',M',g,q⟩ | ⟨ha,i',c',k',b',r',M',g,q⟩;have i:A9 (λe m k=>qo (l7 KW fu (n+1)) fu none e m k) fu (Ai v (iV 0) (iV (a.length:Int)) .undef (.func (.func cl) [] []) .undef .undef (iV 0)) m []=_:=g;rw [q9] at ha;have b:l7 KW fu (n+2) (.func 180) [v,(.func (.func cl) [] [])] m=some [⟨iV (-1),M'⟩]:=by rw [enter (sf:=f180) rfl rfl];simp [f180,c,i,r]
 refine⟨M',?_,q⟩;rw [enter (sf:=f106) rfl rfl];simp [f106,b,ha];have i:A9 (λe m k=>qo (l7 KW fu (n+1)) fu none e m k) fu (Ai v (iV 0) (iV (a.length:Int)) .undef (.func (.func cl) [] []) .undef .undef (iV 0)) m []=_:=g;rw [q9] at ha;have b:l7 KW fu (n+2) (.func 180) [v,(.func (.func cl) [] [])] m=some [⟨iV (r':Int),M'⟩]:=by rw [enter (sf:=f180) rfl rfl];simp [f180,c,i,r]
 have z:(0:Int)<=(r':Int):=by omega
 refine⟨M',?_,q⟩;rw [enter (sf:=f106) rfl rfl];simp [f106,b,ha,z]
theorem Du {n fu d:Nat}(c:20000<=fu)(b:WY n fu d){m:Mem}(i:m.Ok)(g:m.lim<=m.nx){v:d9}(a:List Ex)(h:iZ m (λ_=>True) a v)(e:S9 a<=10000)(f:ah a<=d):
  ∃m',l7 KW fu (n+3) (.func 106) [v,.func (.func 182) [] []] m=some [⟨.bool (!aU a),m'⟩]∧Ext m m':=yB c (aae b) i g a h e f
theorem aaf (fu:Nat)(t:20000<=fu):∀d n:Nat,4*d+2<=n->WY n fu d:=by
 intro d;induction d with
 | zero=>intro n hn m Q e l j h W P;obtain⟨k0,n0,u,a⟩:=e;rw [qx] at P;omega
 | succ d ih=>
  intro n hn m Q e l j h W P;obtain⟨n,rfl⟩:∃k,n=k+6:=⟨n-6,by omega⟩;obtain⟨k0,n0,u,a⟩:=e;obtain⟨v,s,rfl,F,V⟩:=h;have r:=F.slice.r9;have H:=Us F.slice;have p:=F.slice.cells;have C:=H6.len V;have c:=F.slice.len;rw [C] at c;rw [oJ] at W;rw [qx] at P;have E:=H7 l [o8 (r4 k0 n0 u v)];have a0:=O0 a;have b:=λm=>aad k0 (n+4) fu m;by_cases c1:X9 k0=-2;refine⟨_,?_,E⟩;rw [enter (sf:=f108) rfl rfl];simp [f108,P5 l j,r9,r,p,b,c1,lZ];by_cases D:0<=X9 k0∧¬ (a.length:Int)=X9 k0;obtain⟨D,A⟩:=D;have I:¬ X9 k0<0:=by omega
  refine⟨_,?_,E⟩;rw [enter (sf:=f108) rfl rfl];simp [f108,P5 l j,r9,r,p,b,c1,D,I,A,c,lZ];have J:¬ (0<=X9 k0∧¬ (a.length:Int)=X9 k0):=D;have f:X9 k0<0∨(a.length:Int)=X9 k0:=by omega
  by_cases A:(k0=1∧(n0<0∨9007199254740992<n0))∨(¬ k0=1∧¬ n0=0);refine⟨_,?_,E⟩;rw [enter (sf:=f108) rfl rfl];rcases A with⟨A,c4⟩ | ⟨A,c4⟩;subst A;have ha:a.length=0:=by simpa [X9] using f
  have O:a=[]:=adE ha;subst O;have w:X9 1=0:=rfl;by_cases c5:n0<0;have K:¬ 0<=n0:=by omega
  simp [f108,P5 l j,r9,r,p,b,w,c,lZ,c5,K];have K:0<=n0:=by omega
  have Y:9007199254740992<n0:=by omega
  have Z:¬ n0<=9007199254740992:=by omega
  simp [f108,P5 l j,r9,r,p,b,w,c,lZ,c5,K,Y,Z];rcases f with h | h;have M:¬ 0<=X9 k0:=by omega
  simp [f108,P5 l j,r9,r,p,b,c1,h,M,c,lZ,A,c4];have M:0<=X9 k0:=by omega
  have N:¬ X9 k0<0:=by omega
  simp [f108,P5 l j,r9,r,p,b,c1,← h,c,lZ,A,c4];have y:=gM.mono (m':=ext m [o8 (r4 k0 n0 u v)]) F E.nx (λi hi _=>E.old i hi) (S':=λ_=>True) λ_ _ h=>h;have z:=CV E V;clear D J;by_cases hk2:k0=2;subst hk2;have w:X9 2=0:=rfl;have x:n0=0:=by omega
  subst x;obtain⟨G,o,E1⟩:=Dr (n:=n) t E.ok (by rw [E.lim];exact aA j E.nx) u;have f:a.length=0:=by simpa [X9] using f
  by_cases hb:Aj u=true
  skip
  obtain⟨M',g,q⟩:=Du (n:=n+2) (fu:=fu) t (ih (n+2) (by omega)) E1.ok (by rw [E1.lim,E.lim];exact aA j (aA E.nx E1.nx)) a (iZ.ext ⟨s,y,z⟩ E1) (by omega) (by omega);have L:G.get m.nx=some (o8 (r4 2 0 u v)):=(E1.old _ (by simp)).trans (by rw [u7 l];rfl);refine⟨M',?_,E.trans (E1.trans q)⟩;rw [enter (sf:=f108) rfl rfl];simp [f108,P5 l j,r9,r,p,b,w,f,c,lZ,o,hb,g,H,L];have B:Aj u=false:=by simpa using hb
  refine⟨G,?_,E.trans E1⟩;rw [enter (sf:=f108) rfl rfl];simp [f108,P5 l j,r9,r,p,b,w,f,c,lZ,o,B];by_cases hk3:k0=3;subst hk3;have w:X9 3=-1:=rfl;have x:n0=0:=by omega
  subst x;obtain⟨G,o,E1⟩:=Dr (n:=n) t E.ok (by rw [E.lim];exact aA j E.nx) u;clear f;have f:True:=trivial
  by_cases hb:Aj u=true
  skip
  obtain⟨M',g,q⟩:=Du (n:=n+2) (fu:=fu) t (ih (n+2) (by omega)) E1.ok (by rw [E1.lim,E.lim];exact aA j (aA E.nx E1.nx)) a (iZ.ext ⟨s,y,z⟩ E1) (by omega) (by omega);have L:G.get m.nx=some (o8 (r4 3 0 u v)):=(E1.old _ (by simp)).trans (by rw [u7 l];rfl);refine⟨M',?_,E.trans (E1.trans q)⟩;rw [enter (sf:=f108) rfl rfl];simp [f108,P5 l j,r9,r,p,b,w,f,c,lZ,o,hb,g,H,L];have B:Aj u=false:=by simpa using hb
  refine⟨G,?_,E.trans E1⟩;rw [enter (sf:=f108) rfl rfl];simp [f108,P5 l j,r9,r,p,b,w,f,c,lZ,o,B];by_cases hk1:k0=1;subst hk1;have w:X9 1=0:=rfl;have f:a.length=0:=by simpa [X9] using f
  have R:0<=n0:=by omega
  have S:¬ n0<0:=by omega
  have T:n0<=9007199254740992:=by omega
  have U:¬ 9007199254740992<n0:=by omega
  by_cases hs:u=[];subst hs;obtain⟨M',g,q⟩:=Du (n:=n+2) (fu:=fu) t (ih (n+2) (by omega)) E.ok (by rw [E.lim];exact aA j E.nx) a ⟨s,y,z⟩ (by omega) (by omega);refine⟨M',?_,E.trans q⟩;rw [enter (sf:=f108) rfl rfl];simp [f108,P5 l j,r9,r,p,b,c,lZ,o9,w,f,R,S,T,U,g,H];refine⟨_,?_,E⟩;rw [enter (sf:=f108) rfl rfl];simp [f108,P5 l j,r9,r,p,b,c,lZ,o9,w,f,R,S,T,U,hs];have x:n0=0:=by omega
  subst x;have X:0<X9 k0:=by unfold X9 at c1 ⊢;rw [if_neg hk3,if_neg (by omega)] at c1 ⊢;by_cases z1:k0=4∨k0=5;rw [if_pos z1];omega;rw [if_neg z1] at c1 ⊢;by_cases z2:6<=k0∧k0<=18;rw [if_pos z2];omega;rw [if_neg z2] at c1;exact absurd rfl c1
  have h:(a.length:Int)=X9 k0:=by omega
  have M:0<=X9 k0:=by omega
  have N:¬ X9 k0<0:=by omega
  by_cases hs:u=[];subst hs;obtain⟨M',g,q⟩:=Du (n:=n+2) (fu:=fu) t (ih (n+2) (by omega)) E.ok (by rw [E.lim];exact aA j E.nx) a ⟨s,y,z⟩ (by omega) (by omega);refine⟨M',?_,E.trans q⟩;rw [enter (sf:=f108) rfl rfl];simp [f108,P5 l j,r9,r,p,b,c,lZ,o9,c1,← h,hk1,hk2,hk3,g,H];refine⟨_,?_,E⟩;rw [enter (sf:=f108) rfl rfl];simp [f108,P5 l j,r9,r,p,b,c,lZ,o9,c1,← h,hk1,hk2,hk3,hs]
def jK:Ex->Int
 | .mk k _ _ _=>k
mutual
def tL:aR->Bool
 | .mk k s e t f=>decide (1<=k)&&decide (k<=6)&&(if k=1∨k=2 then Aj s else decide (s=[]))&&decide (e.length≠0)&&(decide (e.length<=1)||decide (k=5)) &&
   (decide (t.length=0)||decide (k=3)||decide (k=4))&&(decide (f.length=0)||decide (k=3))&&(decide (k≠6)||decide ((e.map jK).head?=some 3))&&aU e&&aO t&&aO f
def aO:List aR->Bool
 | []=>true
 | s::l=>tL s&&aO l
end
theorem wm {n fu d:Nat}(x:C79 n fu d){m:Mem}{p:Nat}(hm:m.Ok)(hp:p<m.nx)(O:m.lim<=m.nx){R:List d9}{x5:d9}{k0:Int}{s0:List UInt8}{v vt vf x2 x3 x4 x6:d9}{rows:List (List d9)}(G:m.get p=some (o8 (r5 k0 s0 v vt vf)))(a:List Ex)(D:gM m (λ_=>True) 4 v rows)(F:H6 m (λ_=>True) a rows)(S:S9 a<=10000)(Z:ah a<=d):
  ∀(j i:Nat),i+j=a.length->∀(c e:d9) (M:Mem) (N:Nat),Ext m M->j+1<=N->
  (aU (a.drop i)=true∧∃c' e' M',A9 (λenv m k=>jH (l7 KW fu n) fu none env m k) N (fF (.agg R) (.ptr p 0) x2 ff ff x5 ff (iV (i:Int)) c e ff) M []=some [⟨.exit 0,(fF (.agg R) (.ptr p 0) x2 ff ff x5 ff (iV (a.length:Int)) c' e' ff),M',[],none⟩]∧Ext m M')∨
  (aU (a.drop i)=false∧∃(i' c' e':d9) (M':Mem),A9 (λenv m k=>jH (l7 KW fu n) fu none env m k) N (fF (.agg R) (.ptr p 0) x2 ff ff x5 ff (iV (i:Int)) c e ff) M []=some [⟨.ret,(fF (.agg R) (.ptr p 0) x2 ff ff x5 ff i' c' e' ff),M',[],none⟩]∧Ext m M'):=by
 have r:=H6.len F;have b:=D.slice.len;rw [r] at b;have P:=O0 a;intro j;induction j with
 | zero=>
  intro i L c e M N E J;obtain⟨N,rfl⟩:∃k,N=k+1:=⟨N-1,by omega⟩;obtain rfl:i=a.length:=by omega
  have g:=(E.old p hp).trans G;refine .inl ⟨by simp [aU],.bool false,e,M,?_,E⟩;rw [l8];simp [jH,g,b]
 | succ j ih=>
  intro i L c e M N E J;obtain⟨N,rfl⟩:∃k,N=k+1:=⟨N-1,by omega⟩;have f:i<a.length:=by omega
  have h:i<rows.length:=by omega
  have l:(i:Int)<(a.length:Int):=by omega
  have I:=E.ok;have y:M.lim<=M.nx:=by rw [E.lim];exact aA O E.nx
  have g:=(E.old p hp).trans G;have z:a.drop i=a[i]::a.drop (i+1):=Xl f;rw [z,aU];obtain⟨U,o1,C,V,W,H,Y⟩:=(D.slice.ext E).at h;have o:=H6.get F i f h;have T:=o.row;have q:=H 0 4 (by omega) (by omega);rw [q9,Xb (by omega),Y3] at q;have Q:=dN a i f;have K:=kG a i f;have s:bF M (λ_=>True) a[i] rows[i]:=Cu E o;generalize hX:a[i]=X at *;generalize hR:rows[i]=R1 at *;obtain⟨B,w,E2⟩:=x M R1 X I y s (by omega) (by omega);by_cases hf:lZ X=true;rw [hf] at w;have A:=ih (i+1) (by omega) tt ff B N (E.trans E2) (by omega);have u:A9 (λenv m k=>jH (l7 KW fu n) fu none env m k) (N+1) (fF (.agg R) (.ptr p 0) x2 ff ff x5 ff (iV (i:Int)) c e ff) M []=A9 (λenv m k=>jH (l7 KW fu n) fu none env m k) N (fF (.agg R) (.ptr p 0) x2 ff ff x5 ff (.int .i64 ((i+1:Nat):Int)) tt ff ff) B []:=by rw [l8];simp [jH,g,b,f,l,C,q,w,J7 (i:=i) (by omega)]
  rw [u,hf,adl];exact A;have t:lZ X=false:=by simpa using hf
  rw [t] at w;refine .inr ⟨by rw [t];rfl,iV (i:Int),.bool true,.bool true,B,?_,E.trans E2⟩;rw [l8];simp [jH,g,b,f,l,C,q,w]
def C37 (n fu d:Nat):Prop:=∀(m:Mem) (row:List d9) (s:aR),m.Ok->m.lim<=m.nx->lD m (λ_=>True) s row->stP s<=10000->vE s<=d->
 ∃m',l7 KW fu n (.func 37) [.agg row] m=some [⟨.bool (tL s),m'⟩]∧Ext m m'
theorem aag {n fu d:Nat}(u:C37 n fu d){m:Mem}(V:m.Ok)(J:m.lim<=m.nx){v:d9}{rows:List (List d9)}(a:List aR)(B:gM m (λ_=>True) 5 v rows)(C:I4 m (λ_=>True) a rows)(O:V8 a<=10000)(U:aZ a<=d):
  ∀(j i:Nat),i+j=a.length->∀(c e:d9) (M:Mem) (N:Nat),Ext m M->j+1<=N->
  (aO (a.drop i)=true∧∃c' e' M',A9 (λenv m k=>zT (l7 KW fu n) fu none env m k) N (nV5 (iV (i:Int)) v c e ff) M []=some [⟨.exit 0,(nV5 (iV (a.length:Int)) v c' e' ff),M',[],none⟩]∧Ext m M')∨
  (aO (a.drop i)=false∧∃(i' c' e':d9) (M':Mem),A9 (λenv m k=>zT (l7 KW fu n) fu none env m k) N (nV5 (iV (i:Int)) v c e ff) M []=some [⟨.ret,(nV5 i' v c' e' ff),M',[],none⟩]∧Ext m M'):=by
 have p:=I4.len C;have b:=B.slice.len;rw [p] at b;have K:=V5 a;intro j;induction j with
 | zero=>
  intro i I c e M N E G;obtain⟨N,rfl⟩:∃k,N=k+1:=⟨N-1,by omega⟩;obtain rfl:i=a.length:=by omega
  refine .inl ⟨by simp [aO],.bool false,e,M,?_,E⟩;rw [l8];simp [zT,b]
 | succ j ih=>
  intro i I c e M N E G;obtain⟨N,rfl⟩:∃k,N=k+1:=⟨N-1,by omega⟩;have f:i<a.length:=by omega
  have g:i<rows.length:=by omega
  have h:(i:Int)<(a.length:Int):=by omega
  have F:=E.ok;have w:M.lim<=M.nx:=by rw [E.lim];exact aA J E.nx
  have x:a.drop i=a[i]::a.drop (i+1):=Xl f;rw [x,aO];obtain⟨Q,W,A,R,S,D,T⟩:=(B.slice.ext E).at g;have l:=I4.get C i f g;have P:=l.row;have o:=D 0 5 (by omega) (by omega);rw [q9,Xb (by omega),Y3] at o;have L:=kF a i f;have H:=oK a i f;have q:lD M (λ_=>True) a[i] rows[i]:=ZG E l;generalize hX:a[i]=X at *;generalize hR:rows[i]=R1 at *;obtain⟨z,t,E2⟩:=u M R1 X F w q (by omega) (by omega);by_cases hf:tL X=true;rw [hf] at t;have y:=ih (i+1) (by omega) tt ff z N (E.trans E2) (by omega);have s:A9 (λenv m k=>zT (l7 KW fu n) fu none env m k) (N+1) (nV5 (iV (i:Int)) v c e ff) M []=A9 (λenv m k=>zT (l7 KW fu n) fu none env m k) N (nV5 (.int .i64 ((i+1:Nat):Int)) v tt ff ff) z []:=by rw [l8];simp [zT,b,f,h,A,o,t,J7 (i:=i) (by omega)]
  rw [s,hf,adl];exact y;have r:tL X=false:=by simpa using hf
  rw [r] at t;refine .inr ⟨by rw [r];rfl,iV (i:Int),.bool true,.bool true,z,?_,E.trans E2⟩;rw [l8];simp [zT,b,f,h,A,o,t]
end
end Go.Proofs.YteecnooaopfkeaaGreatDoor.TT
