/- Names and well-formed expressions, walked; conditions: the memory holds what the arguments say. -/
import Derived.Test.YtcnimimffiiimaaGreatDoorPD1
set_option linter.all false
namespace Go.Proofs.YtcnimimffiiimaaGreatDoor.TT
open Go Go.AM
noncomputable section
def ai5 (s:By):Nat:=if qO (s.headD 0) then 1 else 3
def Jw (s:By):List Tok->Bool
 | []=>false
 | t :: _=>decide (t=(ai5 s,s))
def PS:List By:=[[108,101,116],[105,102],[101,108,115,101],[119,104,105,108,101],[112,114,105,110,116],[97,110,100],[111,114],[110,111,116]]
def Bn (s:By):Bool:=PS.contains s
def Vv:List Tok->Bool
 | []=>false
 | t :: _=>decide (t.1=1) && !Bn t.2
def pOp (lv:Int):List Tok->Option Int
 | []=>none
 | t :: _=>IQ lv (t.1:Int) t.2
def aoS:List Tok->Bool
 | []=>false
 | t :: _=>decide (t.1=2)
def txt (t:List Tok):By:=(t.headD (0,[])).2
mutual
def DV:Nat->Nat->List Tok->Option (Ex×List Tok)
 | 0,_,_=>none
 | f+1,lv,t=>
  if lv=2 then
   if Jw [110,111,116] t then (match DV f 2 (t.drop 1) with | none=>none | some (x,r)=>some (.mk 5 0 [] [x],r)) else DV f 3 t
  else if lv=6 then
   if Jw [45] t then (match DV f 6 (t.drop 1) with | none=>none | some (x,r)=>some (.mk 4 0 [] [x],r)) else ai6 f t
  else match DV f (lv+1) t with
   | none=>none
   | some (x,r)=>aaK f lv x r
def aaK:Nat->Nat->Ex->List Tok->Option (Ex×List Tok)
 | 0,_,_,_=>none
 | f+1,lv,x,t=>match pOp (lv:Int) t with
  | none=>some (x,t)
  | some k=>match DV f (lv+1) (t.drop 1) with
   | none=>none
   | some (y,r)=>if lv=3 then some (.mk k 0 [] [x,y],r) else aaK f lv (.mk k 0 [] [x,y]) r
def ai6:Nat->List Tok->Option (Ex×List Tok)
 | 0,_=>none
 | f+1,t=>
  if aoS t then some (.mk 1 (ahY (txt t):Nat) [] [],t.drop 1)
  else if Jw [40] t then
   match DV f 0 (t.drop 1) with
   | none=>none
   | some (x,r)=>if Jw [41] r then some (x,r.drop 1) else none
  else if Vv t then
   if Jw [40] (t.drop 1) then
    if Jw [41] (t.drop 2) then some (.mk 3 0 (txt t) [],t.drop 3)
    else match aaL f (t.drop 2) with
     | none=>none
     | some (l,r)=>if Jw [41] r then some (.mk 3 0 (txt t) l,r.drop 1) else none
   else some (.mk 2 0 (txt t) [],t.drop 1)
  else none
def aaL:Nat->List Tok->Option (List Ex×List Tok)
 | 0,_=>none
 | f+1,t=>match DV f 0 t with
  | none=>none
  | some (x,r)=>aaM f [x] r
def aaM:Nat->List Ex->List Tok->Option (List Ex×List Tok)
 | 0,_,_=>none
 | f+1,acc,t=>if Jw [44] t then
    match DV f 0 (t.drop 1) with
    | none=>none
    | some (y,r)=>aaM f (acc ++ [y]) r
  else some (acc,t)
end
def ai7 (f:Nat)(k:Int)(t:List Tok):Option (kG×List Tok):=
 if Vv t then
  if Jw [61] (t.drop 1) then
   match DV f 0 (t.drop 2) with
   | none=>none
   | some (x,r)=>some (.mk k (txt t) [x] [] [],r)
  else none
 else none
def ai8 (t:List Tok):Bool:=Jw [40] (t.drop 1)&&Vv t
def aoT (f:Nat)(t:List Tok):Option (kG×List Tok):=
 if Jw [112,114,105,110,116] t then
  match aaL f (t.drop 1) with
  | none=>none
  | some (l,r)=>some (.mk 5 [] l [] [],r)
 else if Jw [108,101,116] t then ai7 f 1 (t.drop 1)
 else if ai8 t then
  match ai6 f t with
  | none=>none
  | some (x,r)=>some (.mk 6 [] [x] [] [],r)
 else ai7 f 2 t
mutual
def aoU:Nat->List Tok->Option (kG×List Tok)
 | 0,_=>none
 | f+1,t=>
  if Jw [105,102] t then
   match DV f 0 (t.drop 1) with
   | none=>none
   | some (x,r)=>match acD f r with
    | none=>none
    | some (th,r2)=>if Jw [101,108,115,101] r2 then
      match acD f (r2.drop 1) with
      | none=>none
      | some (el,r3)=>some (.mk 3 [] [x] th el,r3)
     else some (.mk 3 [] [x] th [],r2)
  else if Jw [119,104,105,108,101] t then
   match DV f 0 (t.drop 1) with
   | none=>none
   | some (x,r)=>match acD f r with
    | none=>none
    | some (th,r2)=>some (.mk 4 [] [x] th [],r2)
  else match aoT f t with
   | none=>none
   | some (s,r)=>if Jw [59] r then some (s,r.drop 1) else none
def acD:Nat->List Tok->Option (List kG×List Tok)
 | 0,_=>none
 | f+1,t=>if Jw [123] t then ai9 f [] (t.drop 1) else none
def ai9:Nat->List kG->List Tok->Option (List kG×List Tok)
 | 0,_,_=>none
 | f+1,acc,t=>if Jw [125] t then some (acc,t.drop 1) else
    match aoU f t with
    | none=>none
    | some (s,r)=>ai9 f (acc ++ [s]) r
end
def Am (r t:List Tok):Prop:=∀y∈r,y∈t
theorem Am.t {a b c:List Tok}(h:Am a b)(g:Am b c):Am a c:=λy d=>g y (h y d)
theorem Am.d {r t:List Tok}{n:Nat}(h:Am r (t.drop n)):Am r t:=λy a=>adH (h y a)
theorem Am.e {r t:List Tok}{n:Nat}(h:Am r t):Am (r.drop n) t:=λy a=>h y (adH a)
theorem Am.r (t:List Tok):Am t t:=λ_ h=>h
set_option maxRecDepth 100000
set_option maxHeartbeats 1000000
theorem oW.tail {M:Mem}{S:Nat->Prop}{rs:Nat}{v:d9}{t:List d9}{ts:List (List d9)}(g:M.Ok)(h:oW M S rs v (t::ts)):
  ∃v' nb,(∀(y a:OF) (ls:List d9) (env:T d9),y ls env=v->a ls env=.int .i64 1->lSl rs y (some a) none ls env M.nx=some (v',nb))∧oW (bL M nb) (λi=>S i∨M.nx<=i) rs v' ts∧Ext M (bL M nb):=by
 rcases h with⟨_,h⟩ | ⟨id,o,h0,h1,h2,h3⟩;cases h;rcases h3 with h3 | ⟨n,rows,h4,h5,h6,h7⟩;cases h3;have e:ts=[]∨∃n rows,M.get id=some (.cells rs n rows)∧o+1+ts.length<=n∧(∀r,r∈ts->r.length=rs)∧∀i (h:i<ts.length),rows.get (o+1+i)=some ts[i]:=by refine .inr ⟨n,rows,h4,by simp at h5;omega,λr k=>h6 r (by simp [k]),λi m=>?_⟩;have:=h7 (i+1) (by simp;omega);rw [show o+1+i=o+(i+1) from by omega,this];rfl
 have j:Nat.add (o*rs) (Nat.mul 1 rs)=(o+1)*rs:=by rw [adw];rfl
 rcases h1 with⟨c,rfl,hc⟩ | rfl;have f:ts.length+1<=c:=by simpa using hc
 refine⟨.slice id (bi (Nat.beq 1 c) (o*rs) (Nat.add (o*rs) (Nat.mul 1 rs))) ts.length (c-1),none,λy a ls env d b=>?_,?_,Ext.refl g⟩;show iM (a ls env) (λl=>J6 M.nx rs (y ls env) l none)=_;rw [b,d];show bi (Nat.ble 1 (ts.length+1)) (bi (Nat.ble (ts.length+1) c) (some (d9.slice id (bi (Nat.beq 1 c) (o*rs) (Nat.add (o*rs) (Nat.mul 1 rs))) (Nat.sub (ts.length+1) 1) (Nat.sub c 1),none)) none) none=_;rw [show Nat.ble 1 (ts.length+1)=true from Z4 (by omega),show Nat.ble (ts.length+1) c=true from Z4 f];rfl;rw [pX];by_cases hc1:1=c;rw [if_pos hc1];have:ts=[]:=aax.1 (by omega);subst this;exact .inr ⟨id,o,.inl h0,.inl ⟨c-1,rfl,by simp⟩,h2,.inl rfl⟩;rw [if_neg hc1,j];exact .inr ⟨id,o+1,.inl h0,.inl ⟨c-1,rfl,by omega⟩,h2,e⟩;by_cases ht:ts=[];subst ht;refine⟨.sliceU M.nx 0 0 rs,some (.tail id),λy a ls env d b=>?_,?_,(Ext.refl g).new _⟩;show iM (a ls env) (λl=>J6 M.nx rs (y ls env) l none)=_;rw [b,d];show bi (Nat.beq rs rs) _ none=_;rw [show Nat.beq rs rs=true from aat rs];rfl;exact .inr ⟨M.nx,0,.inr (lM _),.inr (by simp),by show M.nx<M.nx+1;omega,.inl rfl⟩;have p:=agt.2 ht;refine⟨.sliceU id (Nat.add (o*rs) (Nat.mul 1 rs)) ts.length rs,none,λy a ls env d b=>?_,?_,Ext.refl g⟩;show iM (a ls env) (λl=>J6 M.nx rs (y ls env) l none)=_;rw [b,d];show bi (Nat.ble 1 (ts.length+1)) (bi (Nat.ble (ts.length+1) (ts.length+1)) (bi (Nat.beq rs rs) (bi (Nat.blt 1 (ts.length+1)) (some (d9.sliceU id (Nat.add (o*rs) (Nat.mul 1 rs)) (Nat.sub (ts.length+1) 1) rs,none)) _) none) none) none=_;rw [show Nat.ble 1 (ts.length+1)=true from Z4 (by omega),show Nat.ble (ts.length+1) (ts.length+1)=true from Z4 (lM _),show Nat.beq rs rs=true from aat rs,show Nat.blt 1 (ts.length+1)=true from Xb.mpr (by omega)];rfl;rw [j];exact .inr ⟨id,o+1,.inl h0,.inr rfl,h2,e⟩
structure RD (S:Nat->Prop)(p:Nat)(M:Mem)(toks:List Tok):Prop where
 ok:M.Ok
 lt:p<M.nx
 lim:M.lim<=p
 np:¬ S p
 has:∃v,M.get p=some (r9 [v])∧oW M S 2 v (tQ toks)
theorem RD.YL {S:Nat->Prop}{p:Nat}{M:Mem}{a:List Tok}(h:RD S p M a):M.lim<=M.nx:=J2 h.lim (aeQ h.lt)
theorem RD.ext {S:Nat->Prop}{p:Nat}{M a:Mem}{toks:List Tok}(h:RD S p M toks)(e:Ext M a):RD S p a toks:=by obtain⟨v,b,c⟩:=h.has;exact⟨e.ok,q9 h.lt e.nx,by rw [e.lim];exact h.lim,h.np,v,(e.old p h.lt).trans b,c.mono e.nx (λi d _=>e.old i d) λ_ _ h=>h⟩
theorem RD.drop {S:Nat->Prop}{p:Nat}{M:Mem}{t:Tok}{ts:List Tok}(h:RD S p M (t::ts)):∃v v' nb,M.get p=some (r9 [v])∧aR M 2 v (tQ (t::ts))∧(∀(y a:OF) (ls:List d9) (env:T d9),y ls env=v->a ls env=.int .i64 1->lSl 2 y (some a) none ls env M.nx=some (v',nb))∧Go.AM.G9 v'=true∧v'.cells=[v']∧(bL M nb).get p=some (r9 [v])∧
  (bL M nb).lim<=p∧nL p M ((bL M nb).set p (r9 [v']))∧RD (λi=>S i∨M.nx<=i) p ((bL M nb).set p (r9 [v'])) ts:=by
 obtain⟨v,j,k⟩:=h.has;obtain⟨v',nb,l,f,c⟩:=oW.tail (t:=aaJ t) (ts:=tQ ts) h.ok k;have b:p<(bL M nb).nx:=q9 h.lt c.nx;have g:∀i,S i∨M.nx<=i->i≠p:=λi d m=>by subst m;rcases d with d | d;exact h.np d;have:=h.lt;omega
 refine⟨v,v',nb,j,k.slice,l,f.slice.G9,f.slice.cells,(c.old p h.lt).trans j,by rw [c.lim];exact h.lim,⟨Mem.Ok.set c.ok b _,by simpa using c.nx,by simpa using c.lim,λi d n=>by rw [K6 c.ok _ b n,c.old i d]⟩,
  Mem.Ok.set c.ok b _,by simpa using b,by show (bL M nb).lim<=p;rw [c.lim];exact h.lim,λe=>by rcases e with e | e;exact h.np e;have:=h.lt;omega,v',R3 c.ok _ b rfl,f.mono (by simp) (λi d o=>K6 c.ok _ b (g i o)) λ_ _ h=>h⟩
theorem RD.wide {S S':Nat->Prop}{p:Nat}{M:Mem}{toks:List Tok}(h:RD S p M toks)(c:∀i,i<M.nx->S i->S' i)(hp:¬ S' p):RD S' p M toks:=by obtain⟨v,a,b⟩:=h.has;exact⟨h.ok,h.lt,h.lim,hp,v,a,b.mono (lM _) (λ_ _ _=>rfl) c⟩
theorem Vw {m:Mem}{v:d9}{s:By}{cf:D7}{fu:Nat}(l:List By)(z:l.length<=1000)(x:jQ m v (strs l)):
  ∀(j i:Nat),i+j=l.length->∀(c3 c5 c6:d9) (N:Nat),j+1<=N->
  (s∉l.drop i∧∃c3' c5' c6',H7 (λenv m k=>oU cf fu none env m k) N (yL v (iV (i:Int)) (iV (l.length:Int)) c3 (.str s) c5 c6 (iV 0)) m []=some [⟨.exit 0,(yL v (iV (l.length:Int)) (iV (l.length:Int)) c3' (.str s) c5' c6' (iV 0)),m,[],none⟩])∨
  (s∈l.drop i∧∃(x1 x3 x5 x6:d9) (j:Nat),H7 (λenv m k=>oU cf fu none env m k) N (yL v (iV (i:Int)) (iV (l.length:Int)) c3 (.str s) c5 c6 (iV 0)) m []=some [⟨.ret,(yL v x1 (iV (l.length:Int)) x3 (.str s) x5 x6 (iV (j:Int))),m,[],none⟩]):=by
 intro j;induction j with
 | zero=>
  intro i u c3 c5 c6 N r;obtain⟨N,rfl⟩:∃k,N=k+1:=⟨N-1,by omega⟩;obtain rfl:i=l.length:=by omega
  refine .inl ⟨by simp,.bool false,c5,c6,?_⟩;rw [A9];simp [oU]
 | succ j ih=>
  intro i u c3 c5 c6 N r;obtain⟨N,rfl⟩:∃k,N=k+1:=⟨N-1,by omega⟩;have d:i<l.length:=by omega
  have e:(i:Int)<(l.length:Int):=by omega
  obtain⟨id,c,q,y,n⟩:=x.at (i:=i) (by rw [nA];omega);have p:(strs l)[i]'(by rw [nA];exact d)=.str l[i]:=List.getElem_map ..;rw [p] at n;have g:qj v none (λid c f _=>idx f (iV (i:Int)) λk=>some (d9.ptr id (c+k))) (λid c f _=>idx f (iV (i:Int)) λk=>some (d9.ptr id (c+k)))=some (.ptr id c):=by simpa using q
  have t:l.drop i=l[i]::l.drop (i+1):=Xd d;rw [t];by_cases hs:s=l[i];refine .inr ⟨by rw [hs];exact abU,iV (i:Int),.bool true,iV (i:Int),.bool true,i,?_⟩;rw [A9];simp [oU,d,e,g,n,← hs,K8];have o:=ih (i+1) (by omega) tt (iV (i:Int)) ff N (by omega);have h:H7 (λenv m k=>oU cf fu none env m k) (N+1) (yL v (iV (i:Int)) (iV (l.length:Int)) c3 (.str s) c5 c6 (iV 0)) m []=H7 (λenv m k=>oU cf fu none env m k) N (yL v (.int .i64 ((i+1:Nat):Int)) (iV (l.length:Int)) tt (.str s) (iV (i:Int)) ff (iV 0)) m []:=by rw [A9];simp [oU,d,e,g,n,hs,K8,T9 (i:=i) (by omega)]
  rw [h];rcases o with⟨a,b⟩ | ⟨a,b⟩;exact .inl ⟨λw=>(X4.1 w).elim hs a,b⟩;exact .inr ⟨Y1 _ a,b⟩
theorem YQ {m:Mem}{v:d9}{s:By}(l:List By)(i:l.length<=1000)(f:jQ m v (strs l))(n fu:Nat)(h:2000<=fu):
  l9 KW fu (n+2) (.func 199) [v,.str s] m=some [⟨.bool (decide (s∈l)),m⟩]:=by
 have b:=f.len;rw [nA] at b;have e:(s∉l∧l9 KW fu (n+1) (.func 250) [v,.str s] m=some [⟨iV (-1),m⟩])∨(s∈l∧∃j:Nat,l9 KW fu (n+1) (.func 250) [v,.str s] m=some [⟨iV (j:Int),m⟩]):=by rcases Vw (s:=s) (cf:=l9 KW fu n) (fu:=fu) l i f l.length 0 (by omega) .undef .undef .undef fu (by omega) with⟨a,c3',c5',c6',g⟩ | ⟨a,x1,x3,x5,x6,j,g⟩;have d:H7 (λc m k=>oU (l9 KW fu n) fu none c m k) fu (yL v (iV 0) (iV (l.length:Int)) .undef (.str s) .undef .undef (iV 0)) m []=_:=g;refine .inl ⟨by simpa using a,?_⟩;rw [enter (sf:=f250) rfl rfl];simp [f250,b,d];have d:H7 (λc m k=>oU (l9 KW fu n) fu none c m k) fu (yL v (iV 0) (iV (l.length:Int)) .undef (.str s) .undef .undef (iV 0)) m []=_:=g;refine .inr ⟨by simpa using a,j,?_⟩;rw [enter (sf:=f250) rfl rfl];simp [f250,b,d]
 rw [enter (sf:=f199) rfl rfl];rcases e with⟨a,g⟩ | ⟨a,j,g⟩;simp [f199,g,a];have:(0:Int)<=(j:Int):=by omega
 simp [f199,g,a,this]
theorem bs8 (ls:List d9)(env:T d9)(a:Nat):R6 1 8 [.str []] [(0,1,C9 (.str [108,101,116])),(1,1,C9 (.str [105,102])),(2,1,C9 (.str [101,108,115,101])),(3,1,C9 (.str [119,104,105,108,101])),(4,1,C9 (.str [112,114,105,110,116])),(5,1,C9 (.str [97,110,100])),(6,1,C9 (.str [111,114])),(7,1,C9 (.str [110,111,116]))] ls env a=some (.slice a 0 8 8,some (.cells 1 8 (T.ofList ((strs PS).map ([·]))))):=rfl
theorem YR {m:Mem}(b:m.Ok)(s:By)(n fu:Nat)(a:2000<=fu):∃m',l9 KW fu (n+3) (.func 108) [.str s] m=some [⟨.bool (Bn s),m'⟩]∧Ext m m':=by
 have E:=J5 b [.cells 1 8 (T.ofList ((strs PS).map ([·])))];have c:jQ (ext m [.cells 1 8 (T.ofList ((strs PS).map ([·])))]) (.slice m.nx 0 8 8) (strs PS):=Vp b (strs PS);have g:=YQ (s:=s) PS (by decide) c n fu a;have e:decide (s∈PS)=Bn s:=by unfold Bn;rw [List.contains_eq_mem]
 rw [e] at g;refine⟨_,?_,E⟩;rw [enter (sf:=f108) rfl rfl];simp [f108,G7,I8,bs8,g]
def oI (f:Ex->Int->Int):List Ex->Int->Int->Int
 | [],n,_=>n
 | e::l,n,most=>if n<=most then oI f l (n+f e (most-n)) most else n
def DW:Ex->List Ex
 | .mk _ _ _ a=>a
def wX:Nat->Ex->Int->Int
 | 0,_,most=>most+1
 | d+1,e,most=>oI (wX d) (DW e) 1 most
def stN:kG->List UInt8
 | .mk _ s _ _ _=>s
theorem DX (f:Ex->Int->Int)(hf:∀e most,0<=most->0<=f e most):∀(l:List Ex) (n most:Int),n<=oI f l n most
 | [],n,most=>Int.le_refl _
 | e::l,n,most=>by rw [oI];split;have h1:=hf e (most-n) (by omega);have h2:=DX f hf l (n+f e (most-n)) most;omega;omega
theorem LV (f:Ex->Int->Int)(hf:∀e most,0<=most->f e most<=most+1):∀(l:List Ex) (n most:Int),oI f l n most<=max n (most+1)
 | [],n,most=>by rw [oI];omega
 | e::l,n,most=>by rw [oI];split;have h1:=hf e (most-n) (by omega);have h2:=LV f hf l (n+f e (most-n)) most;omega;omega
theorem PU:∀(d:Nat) (e:Ex) (most:Int),0<=most->1<=wX d e most∧wX d e most<=most+1
 | 0,e,most,h=>by rw [wX];omega
 | d+1,e,most,h=>by rw [wX];have h1:=DX (wX d) (λe m hm=>by have:=PU d e m hm;omega) (DW e) 1 most;have h2:=LV (wX d) (λe m hm=>(PU d e m hm).2) (DW e) 1 most;omega
theorem Gw (d:Nat)(hd:∀(e:Ex)(most:Int),0<=most->wX d e most<=most->wX d e most=(gQ e:Int)∧fA e<=d):
  ∀(l:List Ex) (n most:Int),oI (wX d) l n most<=most->oI (wX d) l n most=n+(Z0 l:Int)∧aj l<=d
 | [],n,most,h=>by simp [oI,Z0,aj]
 | e::l,n,most,h=>by rw [oI] at h ⊢;split at h;rename_i hn;rw [if_pos hn];have hg:=DX (wX d) (λe m hm=>by have:=PU d e m hm;omega) l (n+wX d e (most-n)) most;obtain⟨h1,h2⟩:=hd e (most-n) (by omega) (by omega);obtain⟨h3,h4⟩:=Gw d hd l _ most h;rw [h3,h1,Z0,aj];exact⟨by omega,by omega⟩;omega
theorem Vx:∀(d:Nat) (e:Ex) (most:Int),0<=most->wX d e most<=most->wX d e most=(gQ e:Int)∧fA e<=d
 | 0,e,most,h0,h=>by rw [wX] at h;omega
 | d+1,.mk k n s a,most,h0,h=>by rw [wX] at h ⊢;obtain⟨h1,h2⟩:=Gw d (Vx d) a 1 most h;exact⟨by rw [DW,h1,gQ];omega,by rw [fA];omega⟩
mutual
def stW:kG->Nat
 | .mk _ s e t f=>1+s.length / 100+RV t+RV f+Z0 e
def RV:List kG->Nat
 | []=>0
 | s::l=>stW s+RV l
end
mutual
def Ga:kG->Nat
 | .mk _ s e t f=>1300+s.length+acE t+acE f+700*e.length
def acE:List kG->Nat
 | []=>0
 | s::l=>Ga s+acE l
end
mutual
theorem aia:∀s:kG,stP s<=stW s
 | .mk _ s e t f=>by rw [stP,stW];have:=Oi t;have:=Oi f;omega
theorem Oi:∀l:List kG,nC l<=RV l
 | []=>by rw [nC,RV];exact lM _
 | s::l=>by rw [nC,RV];have:=aia s;have:=Oi l;omega
end
set_option maxHeartbeats 8000000
def C67 (n fu d:Nat):Prop:=∀(m:Mem) (row:List d9) (e:Ex) (most:Int) (dp:Nat),m.Ok->m.lim<=m.nx->bU m (λ_=>True) e row->0<=gQ e->0<=most->most<=600->dp+d=27->
 ∃m',l9 KW fu n (.func 12) [.agg row,iV most,iV (dp:Int)] m=some [⟨iV (wX d e most),m'⟩]∧Ext m m'
theorem YS {n fu d dp:Nat}(O:dp+d=26)(u:C67 n fu d){most:Int}(T:most<=600){m:Mem}{p:Nat}(hm:m.Ok)(hp:p<m.nx)(Q:m.lim<=m.nx){R:List d9}{k0 n0:Int}{s0:List UInt8}{v:d9}{rows:List (List d9)}(F:m.get p=some (r9 (r4 k0 n0 s0 v)))(a:List Ex)(s:oW m (λ_=>True) 4 v rows)(D:G8 m (λ_=>True) a rows)(V:0<=Z0 a):
  ∀(j i:Nat),i+j=a.length->∀(x:Int) (c:d9) (M:Mem) (N:Nat),Ext m M->(i:Int)<x->x<=601->most-x+2<=(N:Int)->1<=N->
  ∃i' c' M',H7 (λenv m k=>Gm (l9 KW fu n) fu none env m k) N (ML (.agg R) (iV (dp:Int)) ff (iV most) (iV (i:Int)) (.ptr p 0) (iV x) c (iV 0)) M [] =
   some [⟨.exit 0,(ML (.agg R) (iV (dp:Int)) ff (iV most) (iV i') (.ptr p 0) (.int .i64 (oI (wX d) (a.drop i) x most)) c' (iV 0)),M',[],none⟩]∧Ext m M':=by
 have o:=G8.len D;have b:=s.slice.len;rw [o] at b;have S:=V3 a;have cv:=s.slice.cells;have ov:=s.slice.G9;intro j;induction j with
 | zero=>
  intro i P x c M N E B C L z;obtain⟨N,rfl⟩:∃k,N=k+1:=⟨N-1,by omega⟩;obtain rfl:i=a.length:=by omega
  have f:=(E.old p hp).trans F;refine⟨(a.length:Int),.bool false,M,?_,E⟩;rw [A9,aaC,oI];simp [Gm,f,b]
 | succ j ih=>
  intro i P x c M N E B C L z;obtain⟨N,rfl⟩:∃k,N=k+1:=⟨N-1,by omega⟩;have e:i<a.length:=by omega
  have g:i<rows.length:=by omega
  have h:(i:Int)<(a.length:Int):=by omega
  have K:=E.ok;have w:M.lim<=M.nx:=by rw [E.lim];exact J2 Q E.nx
  have f:=(E.old p hp).trans F;have A:a.drop i=a[i]::a.drop (i+1):=Xd e;rw [A,oI];by_cases hx:x<=most;obtain⟨Y,o1,G,a2,a3,H,a5⟩:=(s.slice.ext E).at g;have l:=G8.get D i e g;have W:=l.row;have r:=H 0 4 (by omega) (by omega);rw [J4,Y7 (by omega),Y5] at r;have U:=jo a i e;have q:bU M (λ_=>True) a[i] rows[i]:=SK E l;generalize hX:a[i]=X at *;generalize hR:rows[i]=R1 at *;obtain⟨Z,I,E2⟩:=u M R1 X (most-x) (dp+1) K w q (by omega) (by omega) (by omega) (by omega);have hw:=PU d X (most-x) (by omega);generalize wX d X (most-x)=y at *;obtain⟨i',c',M',J,q1⟩:=ih (i+1) (by omega) (x+y) tt Z N (E.trans E2) (by omega) (by omega) (by omega) (by omega);refine⟨i',c',M',?_,q1⟩;rw [if_pos hx];have w1:tX (most-x)=most-x:=U8 (by omega) (by omega);have w2:tX ((dp:Int)+1)=(dp:Int)+1:=U8 (by omega) (by omega);have w3:tX (x+y)=x+y:=U8 (by omega) (by omega);have t:l9 KW fu n (.func 12) [.agg R1,iV (most-x),.int .i64 ((dp:Int)+1)] M=_:=I;rw [A9,← J];simp [Gm,f,b,e,h,hx,G,r,t,w1,w2,w3,T9 (i:=i) (by omega)];refine⟨(i:Int),.bool false,M,?_,E⟩;rw [if_neg hx,A9];simp [Gm,f,b,e,h,hx]
theorem acF (fu:Nat)(J:20000<=fu):∀d n:Nat,d<=27->d+1<=n->C67 n fu d:=by
 intro d;induction d with
 | zero=>
  intro n I L m C e most dp q u h F H t z;obtain⟨n,rfl⟩:∃k,n=k+1:=⟨n-1,by omega⟩;obtain rfl:dp=27:=by omega
  obtain⟨j,l,o,a⟩:=e;obtain⟨v,s,rfl,b,D⟩:=h;have B:=b.slice.G9;have w:=b.slice.cells;have N:tX (most+1)=most+1:=U8 (by omega) (by omega);refine⟨ext m [r9 (r4 j l o v)],?_,J5 q _⟩;rw [enter (sf:=f12) rfl rfl];simp [f12,lU q u,G9,wX,N,B,w]
 | succ d ih=>
  intro n I L m C e most dp q u h F H A z;obtain⟨n,rfl⟩:∃k,n=k+1:=⟨n-1,by omega⟩;obtain⟨j,l,o,a⟩:=e;obtain⟨v,s,rfl,t,D⟩:=h;have B:=t.slice.G9;have w:=t.slice.cells;rw [gQ] at F;have E:=J5 q [r9 (r4 j l o v)];have b:=oW.mono (m':=ext m [r9 (r4 j l o v)]) t E.nx (λi K _=>E.old i K) (S':=λ_=>True) λ_ _ h=>h;have y:=Vm E D;obtain⟨P,O,M',g,M⟩:=YS (n:=n) (d:=d) (dp:=dp) (p:=m.nx) (R:=(r4 j l o v)) (most:=most) (by omega) (ih n (by omega) (by omega)) A E.ok (by simp) (by rw [E.lim];exact J2 u E.nx) (by rw [D6 q];rfl) a b y (by omega) a.length 0 (by omega) 1 .undef (_) fu (Ext.refl E.ok) (by omega) (by omega) (by omega) (by omega);have G:H7 (λx m k=>Gm (l9 KW fu n) fu none x m k) fu (ML (.agg (r4 j l o v)) (iV (dp:Int)) ff (iV most) (iV 0) (.ptr m.nx 0) (iV 1) .undef (iV 0)) (ext m [r9 (r4 j l o v)]) []=_:=g;refine⟨M',?_,E.trans M⟩;have r:decide (26<(dp:Int))=false:=decide_eq_false (by omega);have c:¬ (26<(dp:Int)):=by omega
  have f:¬ (26<dp):=by omega
  rw [enter (sf:=f12) rfl rfl,wX,DW];simp [f12,lU q u,G9,G,B,w,r,c,f]
theorem wM (n:Nat)(s:By):dz (n+1) (.str s) (.str s)=true:=by show strEq s s=true;rw [eU];simp
def EZ (s:By):Bool:=!s.isEmpty&&decide (s.length<=16)&&qO (s.headD 0)&&s.all Eo && !Bn s
theorem Vy {m:Mem}(a:m.Ok)(s:By)(n fu:Nat)(b:2000<=fu):∃m',l9 KW fu (n+2) (.func 130) [.str s] m=some [⟨.bool (Bn s),m'⟩]∧Ext m m':=by
 have E:=J5 a [.cells 1 8 (T.ofList ((strs PS).map ([·])))];have c:jQ (ext m [.cells 1 8 (T.ofList ((strs PS).map ([·])))]) (.slice m.nx 0 8 8) (strs PS):=Vp a (strs PS);have g:=acu (s:=s) PS (by decide) c n fu (by omega);have e:(PS.any λt=>decide (s=t))=Bn s:=by unfold Bn;rw [List.contains_eq_any_beq];congr 1;funext t;rw [aaz];simp
 rw [e] at g;refine⟨_,?_,E⟩;rw [enter (sf:=f130) rfl rfl];simp [f130,G7,I8,bs8,g]
theorem YT {n fu:Nat}{m:Mem}(s:By)(hs:s.length<=16):
  ∀(j i:Nat),i+j=s.length->∀(c d:d9) (N:Nat),j+1<=N->
  ((s.drop i).all Eo=true∧∃c' d',H7 (λenv m k=>qg (l9 KW fu (n+1)) fu none env m k) N (zM (.str s) ff (iV (i:Int)) c d ff) m []=some [⟨.exit 0,(zM (.str s) ff (iV (s.length:Int)) c' d' ff),m,[],none⟩])∨
  ((s.drop i).all Eo=false∧∃(i':Int) (c' d':d9),H7 (λenv m k=>qg (l9 KW fu (n+1)) fu none env m k) N (zM (.str s) ff (iV (i:Int)) c d ff) m []=some [⟨.ret,(zM (.str s) ff (iV i') c' d' ff),m,[],none⟩]):=by
 intro j;induction j with
 | zero=>
  intro i v c d N t;obtain⟨N,rfl⟩:∃k,N=k+1:=⟨N-1,by omega⟩;obtain rfl:i=s.length:=by omega
  refine .inl ⟨by simp,.bool false,d,?_⟩;rw [A9];simp [qg]
 | succ j ih=>
  intro i v c d N t;obtain⟨N,rfl⟩:∃k,N=k+1:=⟨N-1,by omega⟩;have a:i<s.length:=by omega
  have b:(i:Int)<(s.length:Int):=by omega
  have q:=λx lo ls env w r=>Dx (x:=x) (lo:=lo) (ls:=ls) (env:=env) (s:=s) (l:=i) w r a;have u:s.drop i=s[i]::s.drop (i+1):=Xd a;have o:=λm=>PE s[i] n fu m;have p:=λm=>YI s[i] n fu m;rw [u,aeU];by_cases h1:qO s[i]=true;have g:=ih (i+1) (by omega) tt ff N (by omega);have e:H7 (λenv m k=>qg (l9 KW fu (n+1)) fu none env m k) (N+1) (zM (.str s) ff (iV (i:Int)) c d ff) m []=H7 (λenv m k=>qg (l9 KW fu (n+1)) fu none env m k) N (zM (.str s) ff (.int .i64 ((i+1:Nat):Int)) tt ff ff) m []:=by rw [A9];simp [qg,a,b,q,o,p,h1,T9 (i:=i) (by omega)]
  rw [e];simpa [Eo,h1] using g;have f:qO s[i]=false:=by simpa using h1
  by_cases h2:zL s[i]=true;have g:=ih (i+1) (by omega) tt ff N (by omega);have e:H7 (λenv m k=>qg (l9 KW fu (n+1)) fu none env m k) (N+1) (zM (.str s) ff (iV (i:Int)) c d ff) m []=H7 (λenv m k=>qg (l9 KW fu (n+1)) fu none env m k) N (zM (.str s) ff (.int .i64 ((i+1:Nat):Int)) tt ff ff) m []:=by rw [A9];simp [qg,a,b,q,o,p,f,h2,T9 (i:=i) (by omega)]
  rw [e];simpa [Eo,f,h2] using g;have h:zL s[i]=false:=by simpa using h2
  refine .inr ⟨by simp [Eo,f,h],(i:Int),.bool true,.bool true,?_⟩;rw [A9];simp [qg,a,b,q,o,p,f,h]
theorem Vz {n fu:Nat}(w:20000<=fu){m:Mem}(i:m.Ok)(s:By):∃m',l9 KW fu (n+3) (.func 74) [.str s] m=some [⟨.bool (EZ s),m'⟩]∧Ext m m':=by
 match s with
 | []=>refine⟨m,?_,Ext.refl i⟩;rw [enter (sf:=f74) rfl rfl];simp [f74,EZ]
 | b::t=>
  have f:¬ (((b::t).length:Nat):Int)=0:=by simp;omega
  have o:∀(x v:OF) (j:List d9) (a:T d9),x j a=.str (b::t)->v j a=.int .i64 0->rO x v j a=some (.int .u8 (b.toNat:Nat)):=λx v j a y r=>Dx (s:=b::t) (l:=0) y r (by simp);have e:=λm=>PE b (n+1) fu m;have d:¬ (b::t)=[]:=by simp
  obtain⟨z,h,E1⟩:=Vy i (b::t) n fu (by omega);have u:EZ (b::t)=(decide ((b::t).length<=16)&&qO b&&(b::t).all Eo && !Bn (b::t)):=by simp [EZ]
  rw [u];generalize hS:b::t=S0 at *;by_cases h16:S0.length<=16;have c:¬ (16:Int)<(S0.length:Int):=by omega
  by_cases hb:qO b=true;rcases YT (n:=n+1) (fu:=fu) (m:=m) S0 h16 S0.length 0 (by omega) .undef .undef fu (by omega) with⟨ha,c',d',g⟩ | ⟨ha,i',c',d',g⟩;have p:H7 (λa m k=>qg (l9 KW fu (n+2)) fu none a m k) fu (zM (.str S0) ff (iV 0) .undef .undef ff) m []=_:=g;rw [J4] at ha;refine⟨z,?_,E1⟩;rw [enter (sf:=f74) rfl rfl];simp [f74,f,d,h16,c,o,e,hb,p,h,ha];have p:H7 (λa m k=>qg (l9 KW fu (n+2)) fu none a m k) fu (zM (.str S0) ff (iV 0) .undef .undef ff) m []=_:=g;rw [J4] at ha;refine⟨m,?_,Ext.refl i⟩;rw [enter (sf:=f74) rfl rfl];simp [f74,f,d,h16,c,o,e,hb,p,ha];have q:qO b=false:=by simpa using hb
  refine⟨m,?_,Ext.refl i⟩;rw [enter (sf:=f74) rfl rfl];simp [f74,f,d,h16,c,o,e,q];have c:(16:Int)<(S0.length:Int):=by omega
  refine⟨m,?_,Ext.refl i⟩;rw [enter (sf:=f74) rfl rfl];simp [f74,f,d,h16,c,o,e]
theorem YU (b:UInt8)(hb:b.toNat<128)(n fu:Nat)(m:Mem):l9 KW fu (n+2) (.func 110) [.int .i32 (b.toNat:Nat)] m=some [⟨.bool (!Eo b),m⟩]:=by
 have d:=λm=>Vo b n fu m;have e:=λm=>acr b n fu m;have f:¬ (127:Int)<(b.toNat:Int):=by omega
 have g:¬ 127<b.toNat:=by omega
 have c:kV .u8 ((b.toNat:Nat):Int)=((b.toNat:Nat):Int):=by show ((b.toNat:Nat):Int)%256=_;omega
 rw [enter (sf:=f110) rfl rfl];by_cases hl:qO b=true;simp [f110,f,g,d,e,c,hl,Eo];have a:qO b=false:=by simpa using hl
 cases hd:zL b<;>simp [f110,f,g,d,e,c,a,hd,Eo]
theorem YV (r:Nat)(c:128<=r)(n fu:Nat)(m:Mem):l9 KW fu (n+2) (.func 110) [.int .i32 (r:Nat)] m=some [⟨.bool true,m⟩]:=by
 have a:(127:Int)<(r:Int):=by omega
 have b:127<r:=by omega
 rw [enter (sf:=f110) rfl rfl];simp [f110,a,b]
theorem acG:mE ff tt=some false:=rfl
theorem acH:mE tt tt=some true:=rfl
theorem VA {p:Nat}(s:By){n fu:Nat}:∀(j pos:Nat),pos<=s.length->s.length<=pos+j->∀(c t r d i:d9) (M:Mem) (N:Nat),M.Ok->M.lim<=p->p<M.nx->M.get p=some (.siter s pos)->j+1<=N->
  ((s.drop pos).all Eo=true∧∃c' t' r' d' i' M',H7 (λenv m k=>kS (l9 KW fu (n+2)) fu none env m k) N (Jd (.str s) (.ptr p 0) c t (.func (.func 110) [] []) r tt d i (iV 0)) M []=some [⟨.exit 0,(Jd (.str s) (.ptr p 0) c' t' (.func (.func 110) [] []) r' tt d' i' (iV 0)),M',[],none⟩]∧Fr (p+1) p M M')∨
  ((s.drop pos).all Eo=false∧∃(c' t' r' d':d9) (i':Nat) (M':Mem),H7 (λenv m k=>kS (l9 KW fu (n+2)) fu none env m k) N (Jd (.str s) (.ptr p 0) c t (.func (.func 110) [] []) r tt d i (iV 0)) M []=some [⟨.ret,(Jd (.str s) (.ptr p 0) c' t' (.func (.func 110) [] []) r' tt d' (iV (i':Int)) (iV (i':Int))),M',[],none⟩]∧Fr (p+1) p M M'):=by
 intro j;induction j with
 | zero=>
  intro pos C D c t r d i M N g v l y E;obtain⟨N,rfl⟩:∃k,N=k+1:=⟨N-1,by omega⟩;obtain rfl:pos=s.length:=by omega
  have f:=Gu y v;refine .inl ⟨by simp,.bool false,.tuple [.bool false],r,d,i,M,?_,Fr.refl g⟩;rw [A9];simp [kS,f]
 | succ j ih=>
  intro pos C D c t r d i M N g v l y E;obtain⟨N,rfl⟩:∃k,N=k+1:=⟨N-1,by omega⟩;by_cases he:pos=s.length;subst he;have f:=Gu y v;refine .inl ⟨by simp,.bool false,.tuple [.bool false],r,d,i,M,?_,Fr.refl g⟩;rw [A9];simp [kS,f];have h:pos<s.length:=by omega
  have f:=Vq y v h;have q:s.drop pos=s[pos]::s.drop (pos+1):=Xd h;rcases Gt s pos h with⟨d1,d2⟩ | ⟨d1,d2,d3,d4,d5,d6⟩;rw [d2] at f;have b:(M.set p (.siter s (pos+1))).Ok:=Mem.Ok.set g l _;have z:(M.set p (.siter s (pos+1))).get p=some (.siter s (pos+1)):=R3 g _ l rfl;have a:Fr (p+1) p M (M.set p (.siter s (pos+1))):=⟨b,by simp,by simp,λi F A=>K6 g _ l A⟩;have o:=λm=>YU s[pos] d1 n fu m;rw [q,aeU];by_cases hb:Eo s[pos]=true;rw [hb] at o;have B:=ih (pos+1) (by omega) (by omega) tt (.tuple [.bool true,iV (pos:Nat),.int .i32 ((s[pos]).toNat:Nat)]) (.int .i32 ((s[pos]).toNat:Nat)) ff (iV (pos:Nat)) _ N b (by simpa using v) (by simpa using l) z (by omega);have x:H7 (λenv m k=>kS (l9 KW fu (n+2)) fu none env m k) (N+1) (Jd (.str s) (.ptr p 0) c t (.func (.func 110) [] []) r tt d i (iV 0)) M []=H7 (λenv m k=>kS (l9 KW fu (n+2)) fu none env m k) N (Jd (.str s) (.ptr p 0) tt (.tuple [.bool true,iV (pos:Nat),.int .i32 ((s[pos]).toNat:Nat)]) (.func (.func 110) [] []) (.int .i32 ((s[pos]).toNat:Nat)) tt ff (iV (pos:Nat)) (iV 0)) (M.set p (.siter s (pos+1))) []:=by rw [A9];simp [kS,f,o,acG,acH]
  rw [x,hb,abY];rcases B with⟨q1,c',t',r',d',i',M',q2,q3⟩ | ⟨q1,c',t',r',d',i',M',q2,q3⟩;exact .inl ⟨q1,c',t',r',d',i',M',q2,a.trans q3⟩;exact .inr ⟨q1,c',t',r',d',i',M',q2,a.trans q3⟩;have e:Eo s[pos]=false:=by simpa using hb
  rw [e] at o;refine .inr ⟨by simp [e],.bool true,.tuple [.bool true,iV (pos:Nat),.int .i32 ((s[pos]).toNat:Nat)],.int .i32 ((s[pos]).toNat:Nat),.bool true,pos,_,?_,a⟩;rw [A9];simp [kS,f,o,acG,acH];have b:(M.set p (.siter s (pos+(Utf8.decode ⟨s.toArray⟩ pos).2))).Ok:=Mem.Ok.set g l _;have a:Fr (p+1) p M (M.set p (.siter s (pos+(Utf8.decode ⟨s.toArray⟩ pos).2))):=⟨b,by simp,by simp,λi F A=>K6 g _ l A⟩;generalize (Utf8.decode ⟨s.toArray⟩ pos).2=w at *;generalize (Utf8.decode ⟨s.toArray⟩ pos).1=u at *;have o:=λm=>YV u d2 n fu m;have e:Eo s[pos]=false:=by unfold Eo qO zL;rw [adG,agj,agj];exact⟨.inr (decide_eq_false (by omega)),.inr (decide_eq_false (by omega))⟩
  refine .inr ⟨by rw [q,aeU,e];rfl,.bool true,.tuple [.bool true,iV (pos:Nat),.int .i32 (u:Nat)],.int .i32 (u:Nat),.bool true,pos,_,?_,a⟩;rw [A9];simp [kS,f,o,acG,acH]
theorem YW {m:Mem}(f:m.Ok)(t:m.lim<=m.nx)(s:By)(hs:s.length<=16)(n fu:Nat)(r:20000<=fu):
  ∃(i:Int) (M':Mem),l9 KW fu (n+3) (.func 200) [.str s,(.func (.func 110) [] []),.bool true] m=some [⟨iV i,M'⟩]∧Ext m M'∧(s.all Eo=true->i=-1)∧(s.all Eo=false->0<=i):=by
 have q:(m.new (.siter s 0)).Ok:=Mem.Ok.new f _;have o:∀j c b d x,x c b=.str s->Bq x j c b d=some [⟨.ptr d.nx 0,d.new (.siter s 0)⟩]:=λj c b d x u=>by show nI (x c b) _=_;rw [u];rfl
 have l:∀M',Fr (m.nx+1) m.nx (m.new (.siter s 0)) M'->Ext m M':=λM' F=>by refine⟨F.ok,J2 (by simp) F.nx,F.lim,λi v=>?_⟩;rw [F.old i (by omega) (by omega),NR f _ (by omega)]
 have g:=VA (p:=m.nx) s (n:=n) (fu:=fu) s.length 0 (by omega) (by omega) .undef .undef .undef .undef .undef (m.new (.siter s 0)) fu q (by simpa using t) (by simp) (Iw f _ rfl) (by omega);rw [J4] at g;rcases g with⟨a,c',t',r',d',i',M',g,F⟩ | ⟨a,c',t',r',d',i',M',g,F⟩;have e:H7 (λb m k=>kS (l9 KW fu (n+2)) fu none b m k) fu (Jd (.str s) (.ptr m.nx 0) .undef .undef (.func (.func 110) [] []) .undef tt .undef .undef (iV 0)) (m.new (.siter s 0)) []=_:=g;refine⟨-1,M',?_,l M' F,λ_=>rfl,λh=>by rw [a] at h;cases h⟩;rw [enter (sf:=f200) rfl rfl];simp [f200,o,e];have e:H7 (λb m k=>kS (l9 KW fu (n+2)) fu none b m k) fu (Jd (.str s) (.ptr m.nx 0) .undef .undef (.func (.func 110) [] []) .undef tt .undef .undef (iV 0)) (m.new (.siter s 0)) []=_:=g;refine⟨(i':Int),M',?_,l M' F,(λh=>by rw [a] at h;cases h),λ_=>by omega⟩;rw [enter (sf:=f200) rfl rfl];simp [f200,o,e]
theorem VB {n fu:Nat}(r:20000<=fu){m:Mem}(o:m.Ok)(A:m.lim<=m.nx)(s:By):∃m',l9 KW fu (n+5) (.func 65) [.str s] m=some [⟨.bool (EZ s),m'⟩]∧Ext m m':=by
 match s with
 | []=>refine⟨m,?_,Ext.refl o⟩;rw [enter (sf:=f65) rfl rfl];simp [f65,EZ,K8]
 | b::t=>
  have k:∀(x y:OF) (p:List d9) (f:T d9),x p f=.str (b::t)->y p f=.int .i64 0->rO x y p f=some (.int .u8 (b.toNat:Nat)):=λx y p f B v=>Dx (s:=b::t) (l:=0) B v (by simp);have e:=λm=>Vo b (n+3) fu m;have c:¬ (b::t)=[]:=by simp
  have w:EZ (b::t)=(decide ((b::t).length<=16)&&qO b&&(b::t).all Eo && !Bn (b::t)):=by simp [EZ]
  rw [w];generalize hS:b::t=S0 at *;by_cases h16:S0.length<=16;have a:¬ (16:Int)<(S0.length:Int):=by omega
  by_cases hb:qO b=true;obtain⟨z,d,E1⟩:=YR o S0 (n+1) fu (by omega);by_cases hr:Bn S0=true;refine⟨z,?_,E1⟩;rw [enter (sf:=f65) rfl rfl];simp [f65,c,h16,a,k,e,hb,d,hr,K8];have j:Bn S0=false:=by simpa using hr
  obtain⟨i,M',h,E2,C,D⟩:=YW E1.ok (by rw [E1.lim];exact J2 A E1.nx) S0 h16 n fu r;have g:l9 KW fu (n+4) (.func 109) [.str S0,(.func (.func 110) [] [])] z=some [⟨iV i,M'⟩]:=by rw [enter (sf:=f109) rfl rfl];simp [f109,h]
  refine⟨M',?_,E1.trans E2⟩;rw [enter (sf:=f65) rfl rfl];cases ha:S0.all Eo;have u:¬ i<0:=by have:=D ha;omega
  simp [f65,c,h16,a,k,e,hb,d,j,g,u,K8];have u:i<0:=by have:=C ha;omega
  simp [f65,c,h16,a,k,e,hb,d,j,g,u,K8];have q:qO b=false:=by simpa using hb
  refine⟨m,?_,Ext.refl o⟩;rw [enter (sf:=f65) rfl rfl];simp [f65,c,h16,a,k,e,q,K8];have a:(16:Int)<(S0.length:Int):=by omega
  refine⟨m,?_,Ext.refl o⟩;rw [enter (sf:=f65) rfl rfl];simp [f65,c,h16,a,k,e,K8]
def U5 (k:Int):Int:=if k=3 then -1 else if k=1∨k=2 then 0 else if k=4∨k=5 then 1 else if 6<=k∧k<=18 then 2 else -2
mutual
def dw:Ex->Bool
 | .mk k n s a=>decide (U5 k≠-2)&&(decide (U5 k<0)||decide ((a.length:Int)=U5 k)) &&
   (if k=1 then decide (0<=n)&&decide (n<=9007199254740992) else decide (n=0)) &&
   (if k=2∨k=3 then EZ s else decide (s=[]))&&iC a
def iC:List Ex->Bool
 | []=>true
 | e::l=>dw e&&iC l
end
theorem acI (k:Int)(n fu:Nat)(m:Mem):l9 KW fu (n+1) (.func 73) [iV k] m=some [⟨iV (U5 k),m⟩]:=by rw [enter (sf:=f73) rfl rfl];unfold U5;by_cases h1:k=1;subst h1;simp [f73];by_cases h2:k=2;subst h2;simp [f73];by_cases h3:k=3;subst h3;simp [f73];by_cases h4:k=4;subst h4;simp [f73];by_cases h5:k=5;subst h5;simp [f73];by_cases h6:6<=k;by_cases h7:k<=18;simp [f73,h1,h2,h3,h4,h5,h6,h7];simp [f73,h1,h2,h3,h4,h5,h6,h7];simp [f73,h1,h2,h3,h4,h5,h6]
theorem acJ (k:Int)(n fu:Nat)(m:Mem):l9 KW fu (n+1) (.func 64) [iV k] m=some [⟨iV (U5 k),m⟩]:=by rw [enter (sf:=f64) rfl rfl];unfold U5;by_cases h1:k=1;subst h1;simp [f64];by_cases h2:k=2;subst h2;simp [f64];by_cases h3:k=3;subst h3;simp [f64];by_cases h4:k=4;subst h4;simp [f64];by_cases h5:k=5;subst h5;simp [f64];by_cases h6:6<=k;by_cases h7:k<=18;simp [f64,h1,h2,h3,h4,h5,h6,h7];simp [f64,h1,h2,h3,h4,h5,h6,h7];simp [f64,h1,h2,h3,h4,h5,h6]
def C79 (n fu d:Nat):Prop:=∀(m:Mem) (row:List d9) (e:Ex),m.Ok->m.lim<=m.nx->bU m (λ_=>True) e row->gQ e<=10000->fA e<=d->
 ∃m',l9 KW fu n (.func 40) [.agg row] m=some [⟨.bool (dw e),m'⟩]∧Ext m m'
theorem BK {n fu d:Nat}(x:C79 n fu d){m:Mem}{p:Nat}(hm:m.Ok)(hp:p<m.nx)(O:m.lim<=m.nx){R:List d9}{x2 x5:d9}{k0 n0:Int}{s0:List UInt8}{v:d9}{rows:List (List d9)}(G:m.get p=some (r9 (r4 k0 n0 s0 v)))(a:List Ex)(D:oW m (λ_=>True) 4 v rows)(F:G8 m (λ_=>True) a rows)(S:Z0 a<=10000)(Z:aj a<=d):
  ∀(j i:Nat),i+j=a.length->∀(c e:d9) (M:Mem) (N:Nat),Ext m M->j+1<=N->
  (iC (a.drop i)=true∧∃c' e' M',H7 (λenv m k=>kZ (l9 KW fu n) fu none env m k) N (EY (.agg R) (.ptr p 0) x2 ff ff x5 ff (iV (i:Int)) c e ff) M []=some [⟨.exit 0,(EY (.agg R) (.ptr p 0) x2 ff ff x5 ff (iV (a.length:Int)) c' e' ff),M',[],none⟩]∧Ext m M')∨
  (iC (a.drop i)=false∧∃(i' c' e':d9) (M':Mem),H7 (λenv m k=>kZ (l9 KW fu n) fu none env m k) N (EY (.agg R) (.ptr p 0) x2 ff ff x5 ff (iV (i:Int)) c e ff) M []=some [⟨.ret,(EY (.agg R) (.ptr p 0) x2 ff ff x5 ff i' c' e' ff),M',[],none⟩]∧Ext m M'):=by
 have r:=G8.len F;have b:=D.slice.len;rw [r] at b;have P:=V3 a;intro j;induction j with
 | zero=>
  intro i L c e M N E J;obtain⟨N,rfl⟩:∃k,N=k+1:=⟨N-1,by omega⟩;obtain rfl:i=a.length:=by omega
  have g:=(E.old p hp).trans G;refine .inl ⟨by simp [iC],.bool false,e,M,?_,E⟩;rw [A9];simp [kZ,g,b]
 | succ j ih=>
  intro i L c e M N E J;obtain⟨N,rfl⟩:∃k,N=k+1:=⟨N-1,by omega⟩;have f:i<a.length:=by omega
  have h:i<rows.length:=by omega
  have l:(i:Int)<(a.length:Int):=by omega
  have I:=E.ok;have y:M.lim<=M.nx:=by rw [E.lim];exact J2 O E.nx
  have g:=(E.old p hp).trans G;have z:a.drop i=a[i]::a.drop (i+1):=Xd f;rw [z,iC];obtain⟨U,o1,C,V,W,H,Y⟩:=(D.slice.ext E).at h;have o:=G8.get F i f h;have T:=o.row;have q:=H 0 4 (by omega) (by omega);rw [J4,Y7 (by omega),Y5] at q;have Q:=jo a i f;have K:=kI a i f;have s:bU M (λ_=>True) a[i] rows[i]:=SK E o;generalize hX:a[i]=X at *;generalize hR:rows[i]=R1 at *;obtain⟨B,w,E2⟩:=x M R1 X I y s (by omega) (by omega);by_cases hf:dw X=true;rw [hf] at w;have A:=ih (i+1) (by omega) tt ff B N (E.trans E2) (by omega);have u:H7 (λenv m k=>kZ (l9 KW fu n) fu none env m k) (N+1) (EY (.agg R) (.ptr p 0) x2 ff ff x5 ff (iV (i:Int)) c e ff) M []=H7 (λenv m k=>kZ (l9 KW fu n) fu none env m k) N (EY (.agg R) (.ptr p 0) x2 ff ff x5 ff (.int .i64 ((i+1:Nat):Int)) tt ff ff) B []:=by rw [A9];simp [kZ,g,b,f,l,C,q,w,T9 (i:=i) (by omega)]
  rw [u,hf,abY];exact A;have t:dw X=false:=by simpa using hf
  rw [t] at w;refine .inr ⟨by rw [t];rfl,iV (i:Int),.bool true,.bool true,B,?_,E.trans E2⟩;rw [A9];simp [kZ,g,b,f,l,C,q,w]
theorem acK (fu:Nat)(H:20000<=fu):∀d n:Nat,d+4<=n->C79 n fu d:=by
 intro d;induction d with
 | zero=>intro n hn m V e o r h X U;obtain⟨k0,n0,s0,a⟩:=e;rw [fA] at U;omega
 | succ d ih=>
  intro n hn m V e o r h X U;obtain⟨n,rfl⟩:∃k,n=k+4:=⟨n-4,by omega⟩;obtain⟨k0,n0,s0,a⟩:=e;obtain⟨v,Z,rfl,I,W⟩:=h;have t:=I.slice.G9;have s:=I.slice.cells;have F:=G8.len W;have c:=I.slice.len;rw [F] at c;rw [gQ] at X;rw [fA] at U;have E:=J5 o [r9 (r4 k0 n0 s0 v)];have a0:=V3 a;have b:=λm=>acI k0 (n+2) fu m;by_cases c1:U5 k0=-2;refine⟨_,?_,E⟩;rw [enter (sf:=f40) rfl rfl];simp [f40,lU o r,G9,t,s,b,c1,dw];by_cases G:0<=U5 k0∧¬ (a.length:Int)=U5 k0;obtain⟨G,C⟩:=G;have N:¬ U5 k0<0:=by omega
  refine⟨_,?_,E⟩;rw [enter (sf:=f40) rfl rfl];simp [f40,lU o r,G9,t,s,b,c1,G,N,C,c,dw];have O:¬ (0<=U5 k0∧¬ (a.length:Int)=U5 k0):=G;have f:U5 k0<0∨(a.length:Int)=U5 k0:=by omega
  by_cases C:(k0=1∧(n0<0∨9007199254740992<n0))∨(¬ k0=1∧¬ n0=0);refine⟨_,?_,E⟩;rw [enter (sf:=f40) rfl rfl];rcases C with⟨C,c4⟩ | ⟨C,c4⟩;subst C;have l:a.length=0:=by simpa [U5] using f
  have T:a=[]:=aeA l;subst T;have x:U5 1=0:=rfl;by_cases c5:n0<0;have P:¬ 0<=n0:=by omega
  simp [f40,lU o r,G9,t,s,b,x,c,dw,c5,P];have P:0<=n0:=by omega
  have c7:9007199254740992<n0:=by omega
  have c8:¬ n0<=9007199254740992:=by omega
  simp [f40,lU o r,G9,t,s,b,x,c,dw,c5,P,c7,c8];rcases f with h | h;have Q:¬ 0<=U5 k0:=by omega
  simp [f40,lU o r,G9,t,s,b,c1,h,Q,c,dw,C,c4];have Q:0<=U5 k0:=by omega
  have S:¬ U5 k0<0:=by omega
  simp [f40,lU o r,G9,t,s,b,c1,← h,c,dw,C,c4];have z:=oW.mono (m':=ext m [r9 (r4 k0 n0 s0 v)]) I E.nx (λi hi _=>E.old i hi) (S':=λ_=>True) λ_ _ h=>h;have A:=Vm E W;clear G O;by_cases hk2:k0=2;subst hk2;have x:U5 2=0:=rfl;have y:n0=0:=by omega
  subst y;obtain⟨B,w,E1⟩:=Vz (n:=n) H E.ok s0;have f:a.length=0:=by simpa [U5] using f
  by_cases hb:EZ s0=true
  skip
  rcases BK (p:=m.nx) (R:=(r4 2 0 s0 v)) (x2:=.int .i64 (0)) (x5:=.bool true) (k0:=2) (n0:=0) (s0:=s0) (ih (n+3) (by omega)) E.ok (by simp) (by rw [E.lim];exact J2 r E.nx) (by rw [D6 o];rfl) a z A (by omega) (by omega) a.length 0 (by omega) .undef .undef B fu E1 (by omega) with⟨l,c',e',M',g,q⟩ | ⟨l,i',c',e',M',g,q⟩;have u:H7 (λj m k=>kZ (l9 KW fu (n+3)) fu none j m k) fu ((.nd (.nd (.nd (.nd .e (iV 0) .e) ff .e) (.ptr m.nx 0) (.nd (.nd .e .undef .e) tt .e)) (.agg (r4 2 0 s0 v)) (.nd (.nd (.nd .e .undef .e) ff .e) (iV (0)) (.nd (.nd .e ff .e) ff .e)))) B []=_:=g;rw [J4] at l;refine⟨M',?_,E.trans q⟩;rw [enter (sf:=f40) rfl rfl];simp [f40,lU o r,G9,t,s,b,x,f,c,dw,w,hb,u,l];have u:H7 (λj m k=>kZ (l9 KW fu (n+3)) fu none j m k) fu ((.nd (.nd (.nd (.nd .e (iV 0) .e) ff .e) (.ptr m.nx 0) (.nd (.nd .e .undef .e) tt .e)) (.agg (r4 2 0 s0 v)) (.nd (.nd (.nd .e .undef .e) ff .e) (iV (0)) (.nd (.nd .e ff .e) ff .e)))) B []=_:=g;rw [J4] at l;refine⟨M',?_,E.trans q⟩;rw [enter (sf:=f40) rfl rfl];simp [f40,lU o r,G9,t,s,b,x,f,c,dw,w,hb,u,l];have D:EZ s0=false:=by simpa using hb
  refine⟨B,?_,E.trans E1⟩;rw [enter (sf:=f40) rfl rfl];simp [f40,lU o r,G9,t,s,b,x,f,c,dw,w,D];by_cases hk3:k0=3;subst hk3;have x:U5 3=-1:=rfl;have y:n0=0:=by omega
  subst y;obtain⟨B,w,E1⟩:=Vz (n:=n) H E.ok s0;clear f;have f:True:=trivial
  by_cases hb:EZ s0=true
  skip
  rcases BK (p:=m.nx) (R:=(r4 3 0 s0 v)) (x2:=.int .i64 (-1)) (x5:=.bool true) (k0:=3) (n0:=0) (s0:=s0) (ih (n+3) (by omega)) E.ok (by simp) (by rw [E.lim];exact J2 r E.nx) (by rw [D6 o];rfl) a z A (by omega) (by omega) a.length 0 (by omega) .undef .undef B fu E1 (by omega) with⟨l,c',e',M',g,q⟩ | ⟨l,i',c',e',M',g,q⟩;have u:H7 (λj m k=>kZ (l9 KW fu (n+3)) fu none j m k) fu ((.nd (.nd (.nd (.nd .e (iV 0) .e) ff .e) (.ptr m.nx 0) (.nd (.nd .e .undef .e) tt .e)) (.agg (r4 3 0 s0 v)) (.nd (.nd (.nd .e .undef .e) ff .e) (iV (-1)) (.nd (.nd .e ff .e) ff .e)))) B []=_:=g;rw [J4] at l;refine⟨M',?_,E.trans q⟩;rw [enter (sf:=f40) rfl rfl];simp [f40,lU o r,G9,t,s,b,x,f,c,dw,w,hb,u,l];have u:H7 (λj m k=>kZ (l9 KW fu (n+3)) fu none j m k) fu ((.nd (.nd (.nd (.nd .e (iV 0) .e) ff .e) (.ptr m.nx 0) (.nd (.nd .e .undef .e) tt .e)) (.agg (r4 3 0 s0 v)) (.nd (.nd (.nd .e .undef .e) ff .e) (iV (-1)) (.nd (.nd .e ff .e) ff .e)))) B []=_:=g;rw [J4] at l;refine⟨M',?_,E.trans q⟩;rw [enter (sf:=f40) rfl rfl];simp [f40,lU o r,G9,t,s,b,x,f,c,dw,w,hb,u,l];have D:EZ s0=false:=by simpa using hb
  refine⟨B,?_,E.trans E1⟩;rw [enter (sf:=f40) rfl rfl];simp [f40,lU o r,G9,t,s,b,x,f,c,dw,w,D];by_cases hk1:k0=1;subst hk1;have x:U5 1=0:=rfl;have f:a.length=0:=by simpa [U5] using f
  have J:0<=n0:=by omega
  have K:¬ n0<0:=by omega
  have L:n0<=9007199254740992:=by omega
  have M:¬ 9007199254740992<n0:=by omega
  by_cases hs:s0=[];subst hs;rcases BK (p:=m.nx) (R:=(r4 1 n0 [] v)) (x2:=.int .i64 (0)) (x5:=.bool false) (k0:=1) (n0:=n0) (s0:=[]) (ih (n+3) (by omega)) E.ok (by simp) (by rw [E.lim];exact J2 r E.nx) (by rw [D6 o];rfl) a z A (by omega) (by omega) a.length 0 (by omega) .undef .undef (ext m [r9 (r4 1 n0 [] v)]) fu (Ext.refl E.ok) (by omega) with⟨l,c',e',M',g,q⟩ | ⟨l,i',c',e',M',g,q⟩;have u:H7 (λj m k=>kZ (l9 KW fu (n+3)) fu none j m k) fu ((.nd (.nd (.nd (.nd .e (iV 0) .e) ff .e) (.ptr m.nx 0) (.nd (.nd .e .undef .e) ff .e)) (.agg (r4 1 n0 [] v)) (.nd (.nd (.nd .e .undef .e) ff .e) (iV (0)) (.nd (.nd .e ff .e) ff .e)))) (ext m [r9 (r4 1 n0 [] v)]) []=_:=g;rw [J4] at l;refine⟨M',?_,E.trans q⟩;rw [enter (sf:=f40) rfl rfl];simp [f40,lU o r,G9,t,s,b,c,dw,K8,x,f,J,K,L,M,u,l];have u:H7 (λj m k=>kZ (l9 KW fu (n+3)) fu none j m k) fu ((.nd (.nd (.nd (.nd .e (iV 0) .e) ff .e) (.ptr m.nx 0) (.nd (.nd .e .undef .e) ff .e)) (.agg (r4 1 n0 [] v)) (.nd (.nd (.nd .e .undef .e) ff .e) (iV (0)) (.nd (.nd .e ff .e) ff .e)))) (ext m [r9 (r4 1 n0 [] v)]) []=_:=g;rw [J4] at l;refine⟨M',?_,E.trans q⟩;rw [enter (sf:=f40) rfl rfl];simp [f40,lU o r,G9,t,s,b,c,dw,K8,x,f,J,K,L,M,u,l];refine⟨_,?_,E⟩;rw [enter (sf:=f40) rfl rfl];simp [f40,lU o r,G9,t,s,b,c,dw,K8,x,f,J,K,L,M,hs];have y:n0=0:=by omega
  subst y;have Y:0<U5 k0:=by unfold U5 at c1 ⊢;rw [if_neg hk3,if_neg (by omega)] at c1 ⊢;by_cases z1:k0=4∨k0=5;rw [if_pos z1];omega;rw [if_neg z1] at c1 ⊢;by_cases z2:6<=k0∧k0<=18;rw [if_pos z2];omega;rw [if_neg z2] at c1;exact absurd rfl c1
  have h:(a.length:Int)=U5 k0:=by omega
  have Q:0<=U5 k0:=by omega
  have S:¬ U5 k0<0:=by omega
  by_cases hs:s0=[];subst hs;rcases BK (p:=m.nx) (R:=(r4 k0 0 [] v)) (x2:=.int .i64 (a.length:Int)) (x5:=.bool false) (k0:=k0) (n0:=0) (s0:=[]) (ih (n+3) (by omega)) E.ok (by simp) (by rw [E.lim];exact J2 r E.nx) (by rw [D6 o];rfl) a z A (by omega) (by omega) a.length 0 (by omega) .undef .undef (ext m [r9 (r4 k0 0 [] v)]) fu (Ext.refl E.ok) (by omega) with⟨l,c',e',M',g,q⟩ | ⟨l,i',c',e',M',g,q⟩;have u:H7 (λj m k=>kZ (l9 KW fu (n+3)) fu none j m k) fu ((.nd (.nd (.nd (.nd .e (iV 0) .e) ff .e) (.ptr m.nx 0) (.nd (.nd .e .undef .e) ff .e)) (.agg (r4 k0 0 [] v)) (.nd (.nd (.nd .e .undef .e) ff .e) (iV (a.length:Int)) (.nd (.nd .e ff .e) ff .e)))) (ext m [r9 (r4 k0 0 [] v)]) []=_:=g;rw [J4] at l;refine⟨M',?_,E.trans q⟩;rw [enter (sf:=f40) rfl rfl];simp [f40,lU o r,G9,t,s,b,c,dw,K8,c1,← h,hk1,hk2,hk3,u,l];have u:H7 (λj m k=>kZ (l9 KW fu (n+3)) fu none j m k) fu ((.nd (.nd (.nd (.nd .e (iV 0) .e) ff .e) (.ptr m.nx 0) (.nd (.nd .e .undef .e) ff .e)) (.agg (r4 k0 0 [] v)) (.nd (.nd (.nd .e .undef .e) ff .e) (iV (a.length:Int)) (.nd (.nd .e ff .e) ff .e)))) (ext m [r9 (r4 k0 0 [] v)]) []=_:=g;rw [J4] at l;refine⟨M',?_,E.trans q⟩;rw [enter (sf:=f40) rfl rfl];simp [f40,lU o r,G9,t,s,b,c,dw,K8,c1,← h,hk1,hk2,hk3,u,l];refine⟨_,?_,E⟩;rw [enter (sf:=f40) rfl rfl];simp [f40,lU o r,G9,t,s,b,c,dw,K8,c1,← h,hk1,hk2,hk3,hs]
def acL (n fu d:Nat):Prop:=∀(m:Mem) (row:List d9) (e:Ex),m.Ok->m.lim<=m.nx->bU m (λ_=>True) e row->gQ e<=10000->fA e<=d->
 ∃m',l9 KW fu n (.func 29) [.agg row] m=some [⟨.bool (dw e),m'⟩]∧Ext m m'
def CG (g:FuncId)(n fu d:Nat):Prop:=∀(m:Mem) (row:List d9) (e:Ex),m.Ok->m.lim<=m.nx->bU m (λ_=>True) e row->gQ e<=10000->fA e<=d->
 ∃m',l9 KW fu n (.func g) [.agg row] m=some [⟨.bool (!dw e),m'⟩]∧Ext m m'
theorem acM {n fu d:Nat}(b:acL n fu d):CG 67 (n+1) fu d:=by
 intro m a e k j h o l;have p:=h.row;obtain⟨c,f⟩:=p;have E:=J5 k [r9 a];obtain⟨q,g,E1⟩:=b (ext m [r9 a]) a e E.ok (by rw [E.lim];exact J2 j E.nx) (SK E h) o l;refine⟨q,?_,E.trans E1⟩;have i:MG (some (r9 a)) 0 4=some (.agg a):=by rw [tu (by omega) (by omega),J4,Y7 (by omega)]
 rw [enter (sf:=f67) rfl rfl];simp [f67,lU k j,G9,c,f,i,g]
theorem VD {o:FuncId}{n fu d:Nat}(H:CG o (n+1) fu d){m:Mem}(V:m.Ok)(J:m.lim<=m.nx){v:d9}{rows:List (List d9)}(a:List Ex)(C:oW m (λ_=>True) 4 v rows)(A:G8 m (λ_=>True) a rows)(O:Z0 a<=10000)(U:aj a<=d):
  ∀(j i:Nat),i+j=a.length->∀(c k b:d9) (M:Mem) (N:Nat),Ext m M->j+1<=N->
  (iC (a.drop i)=true∧∃c' k' b' M',H7 (λenv m k=>oQ (l9 KW fu (n+1)) fu none env m k) N (yL v (iV (i:Int)) (iV (a.length:Int)) c (.func (.func o) [] []) k b (iV 0)) M []=some [⟨.exit 0,(yL v (iV (a.length:Int)) (iV (a.length:Int)) c' (.func (.func o) [] []) k' b' (iV 0)),M',[],none⟩]∧Ext m M')∨
  (iC (a.drop i)=false∧∃(i' c' k' b':d9) (r':Nat) (M':Mem),H7 (λenv m k=>oQ (l9 KW fu (n+1)) fu none env m k) N (yL v (iV (i:Int)) (iV (a.length:Int)) c (.func (.func o) [] []) k b (iV 0)) M []=some [⟨.ret,(yL v i' (iV (a.length:Int)) c' (.func (.func o) [] []) k' b' (iV (r':Int))),M',[],none⟩]∧Ext m M'):=by
 have w:=G8.len A;have K:=V3 a;intro j;induction j with
 | zero=>
  intro i I c k b M N E F;obtain⟨N,rfl⟩:∃k,N=k+1:=⟨N-1,by omega⟩;obtain rfl:i=a.length:=by omega
  refine .inl ⟨by simp [iC],.bool false,k,b,M,?_,E⟩;rw [A9];simp [oQ]
 | succ j ih=>
  intro i I c k b M N E F;obtain⟨N,rfl⟩:∃k,N=k+1:=⟨N-1,by omega⟩;have e:i<a.length:=by omega
  have f:i<rows.length:=by omega
  have g:(i:Int)<(a.length:Int):=by omega
  have D:=E.ok;have t:M.lim<=M.nx:=by rw [E.lim];exact J2 J E.nx
  have u:a.drop i=a[i]::a.drop (i+1):=Xd e;rw [u,iC];obtain⟨Q,W,z,R,S,B,T⟩:=(C.slice.ext E).at f;have h:=G8.get A i e f;have P:=h.row;have l:=B 0 4 (by omega) (by omega);rw [J4,Y7 (by omega),Y5] at l;have L:=jo a i e;have G:=kI a i e;have p:bU M (λ_=>True) a[i] rows[i]:=SK E h;generalize hX:a[i]=X at *;generalize hR:rows[i]=R1 at *;obtain⟨y,s,E2⟩:=H M R1 X D t p (by omega) (by omega);by_cases hf:dw X=true;rw [hf] at s;have x:=ih (i+1) (by omega) tt (iV (i:Int)) ff y N (E.trans E2) (by omega);have r:H7 (λenv m k=>oQ (l9 KW fu (n+1)) fu none env m k) (N+1) (yL v (iV (i:Int)) (iV (a.length:Int)) c (.func (.func o) [] []) k b (iV 0)) M []=H7 (λenv m k=>oQ (l9 KW fu (n+1)) fu none env m k) N (yL v (.int .i64 ((i+1:Nat):Int)) (iV (a.length:Int)) tt (.func (.func o) [] []) (iV (i:Int)) ff (iV 0)) y []:=by rw [A9];simp [oQ,e,g,z,l,s,T9 (i:=i) (by omega)]
  rw [r,hf,abY];exact x;have q:dw X=false:=by simpa using hf
  rw [q] at s;refine .inr ⟨by rw [q];rfl,iV (i:Int),.bool true,iV (i:Int),.bool true,i,y,?_,E.trans E2⟩;rw [A9];simp [oQ,e,g,z,l,s]
theorem aib {i:FuncId}{n fu d:Nat}(w:20000<=fu)(x:CG i (n+1) fu d){m:Mem}(r:m.Ok)(y:m.lim<=m.nx){v:d9}(a:List Ex)(h:vF m (λ_=>True) a v)(o:Z0 a<=10000)(u:aj a<=d):
  ∃m',l9 KW fu (n+3) (.func 66) [v,(.func (.func i) [] [])] m=some [⟨.bool (!iC a),m'⟩]∧Ext m m':=by
 obtain⟨t,l,p⟩:=h;have f:=G8.len p;have c:=l.slice.len;rw [f] at c;have z:=V3 a;have s:=pnR l.slice;rcases VD (n:=n) (fu:=fu) x r y a l p o u a.length 0 (by omega) .undef .undef .undef m fu (Ext.refl r) (by omega) with⟨ha,c',k',b',M',g,q⟩ | ⟨ha,i',c',k',b',r',M',g,q⟩;have j:H7 (λe m k=>oQ (l9 KW fu (n+1)) fu none e m k) fu (yL v (iV 0) (iV (a.length:Int)) .undef (.func (.func i) [] []) .undef .undef (iV 0)) m []=_:=g;rw [J4] at ha;have b:l9 KW fu (n+2) (.func 111) [v,(.func (.func i) [] [])] m=some [⟨iV (-1),M'⟩]:=by rw [enter (sf:=f111) rfl rfl];simp [f111,c,j,s]
 refine⟨M',?_,q⟩;rw [enter (sf:=f66) rfl rfl];simp [f66,b,ha];have j:H7 (λe m k=>oQ (l9 KW fu (n+1)) fu none e m k) fu (yL v (iV 0) (iV (a.length:Int)) .undef (.func (.func i) [] []) .undef .undef (iV 0)) m []=_:=g;rw [J4] at ha;have b:l9 KW fu (n+2) (.func 111) [v,(.func (.func i) [] [])] m=some [⟨iV (r':Int),M'⟩]:=by rw [enter (sf:=f111) rfl rfl];simp [f111,c,j,s]
 have A:(0:Int)<=(r':Int):=by omega
 refine⟨M',?_,q⟩;rw [enter (sf:=f66) rfl rfl];simp [f66,b,ha,A]
theorem Jg {n fu d:Nat}(c:20000<=fu)(b:acL n fu d){m:Mem}(i:m.Ok)(g:m.lim<=m.nx){v:d9}(a:List Ex)(h:vF m (λ_=>True) a v)(e:Z0 a<=10000)(f:aj a<=d):
  ∃m',l9 KW fu (n+3) (.func 66) [v,.func (.func 67) [] []] m=some [⟨.bool (!iC a),m'⟩]∧Ext m m':=aib c (acM b) i g a h e f
theorem YX (fu:Nat)(t:20000<=fu):∀d n:Nat,4*d+2<=n->acL n fu d:=by
 intro d;induction d with
 | zero=>intro n hn m Q e l j h W P;obtain⟨k0,n0,u,a⟩:=e;rw [fA] at P;omega
 | succ d ih=>
  intro n hn m Q e l j h W P;obtain⟨n,rfl⟩:∃k,n=k+6:=⟨n-6,by omega⟩;obtain⟨k0,n0,u,a⟩:=e;obtain⟨v,s,rfl,F,V⟩:=h;have r:=F.slice.G9;have H:=pnR F.slice;have p:=F.slice.cells;have C:=G8.len V;have c:=F.slice.len;rw [C] at c;rw [gQ] at W;rw [fA] at P;have E:=J5 l [r9 (r4 k0 n0 u v)];have a0:=V3 a;have b:=λm=>acJ k0 (n+4) fu m;by_cases c1:U5 k0=-2;refine⟨_,?_,E⟩;rw [enter (sf:=f29) rfl rfl];simp [f29,lU l j,G9,r,p,b,c1,dw];by_cases D:0<=U5 k0∧¬ (a.length:Int)=U5 k0;obtain⟨D,A⟩:=D;have I:¬ U5 k0<0:=by omega
  refine⟨_,?_,E⟩;rw [enter (sf:=f29) rfl rfl];simp [f29,lU l j,G9,r,p,b,c1,D,I,A,c,dw];have J:¬ (0<=U5 k0∧¬ (a.length:Int)=U5 k0):=D;have f:U5 k0<0∨(a.length:Int)=U5 k0:=by omega
  by_cases A:(k0=1∧(n0<0∨9007199254740992<n0))∨(¬ k0=1∧¬ n0=0);refine⟨_,?_,E⟩;rw [enter (sf:=f29) rfl rfl];rcases A with⟨A,c4⟩ | ⟨A,c4⟩;subst A;have ha:a.length=0:=by simpa [U5] using f
  have O:a=[]:=aeA ha;subst O;have w:U5 1=0:=rfl;by_cases c5:n0<0;have K:¬ 0<=n0:=by omega
  simp [f29,lU l j,G9,r,p,b,w,c,dw,c5,K];have K:0<=n0:=by omega
  have Y:9007199254740992<n0:=by omega
  have Z:¬ n0<=9007199254740992:=by omega
  simp [f29,lU l j,G9,r,p,b,w,c,dw,c5,K,Y,Z];rcases f with h | h;have M:¬ 0<=U5 k0:=by omega
  simp [f29,lU l j,G9,r,p,b,c1,h,M,c,dw,A,c4];have M:0<=U5 k0:=by omega
  have N:¬ U5 k0<0:=by omega
  simp [f29,lU l j,G9,r,p,b,c1,← h,c,dw,A,c4];have y:=oW.mono (m':=ext m [r9 (r4 k0 n0 u v)]) F E.nx (λi hi _=>E.old i hi) (S':=λ_=>True) λ_ _ h=>h;have z:=Vm E V;clear D J;by_cases hk2:k0=2;subst hk2;have w:U5 2=0:=rfl;have x:n0=0:=by omega
  subst x;obtain⟨G,o,E1⟩:=VB (n:=n) t E.ok (by rw [E.lim];exact J2 j E.nx) u;have f:a.length=0:=by simpa [U5] using f
  by_cases hb:EZ u=true
  skip
  obtain⟨M',g,q⟩:=Jg (n:=n+2) (fu:=fu) t (ih (n+2) (by omega)) E1.ok (by rw [E1.lim,E.lim];exact J2 j (J2 E.nx E1.nx)) a (vF.ext ⟨s,y,z⟩ E1) (by omega) (by omega);have L:G.get m.nx=some (r9 (r4 2 0 u v)):=(E1.old _ (by simp)).trans (by rw [D6 l];rfl);refine⟨M',?_,E.trans (E1.trans q)⟩;rw [enter (sf:=f29) rfl rfl];simp [f29,lU l j,G9,r,p,b,w,f,c,dw,o,hb,g,H,L];have B:EZ u=false:=by simpa using hb
  refine⟨G,?_,E.trans E1⟩;rw [enter (sf:=f29) rfl rfl];simp [f29,lU l j,G9,r,p,b,w,f,c,dw,o,B];by_cases hk3:k0=3;subst hk3;have w:U5 3=-1:=rfl;have x:n0=0:=by omega
  subst x;obtain⟨G,o,E1⟩:=VB (n:=n) t E.ok (by rw [E.lim];exact J2 j E.nx) u;clear f;have f:True:=trivial
  by_cases hb:EZ u=true
  skip
  obtain⟨M',g,q⟩:=Jg (n:=n+2) (fu:=fu) t (ih (n+2) (by omega)) E1.ok (by rw [E1.lim,E.lim];exact J2 j (J2 E.nx E1.nx)) a (vF.ext ⟨s,y,z⟩ E1) (by omega) (by omega);have L:G.get m.nx=some (r9 (r4 3 0 u v)):=(E1.old _ (by simp)).trans (by rw [D6 l];rfl);refine⟨M',?_,E.trans (E1.trans q)⟩;rw [enter (sf:=f29) rfl rfl];simp [f29,lU l j,G9,r,p,b,w,f,c,dw,o,hb,g,H,L];have B:EZ u=false:=by simpa using hb
  refine⟨G,?_,E.trans E1⟩;rw [enter (sf:=f29) rfl rfl];simp [f29,lU l j,G9,r,p,b,w,f,c,dw,o,B];by_cases hk1:k0=1;subst hk1;have w:U5 1=0:=rfl;have f:a.length=0:=by simpa [U5] using f
  have R:0<=n0:=by omega
  have S:¬ n0<0:=by omega
  have T:n0<=9007199254740992:=by omega
  have U:¬ 9007199254740992<n0:=by omega
  by_cases hs:u=[];subst hs;obtain⟨M',g,q⟩:=Jg (n:=n+2) (fu:=fu) t (ih (n+2) (by omega)) E.ok (by rw [E.lim];exact J2 j E.nx) a ⟨s,y,z⟩ (by omega) (by omega);refine⟨M',?_,E.trans q⟩;rw [enter (sf:=f29) rfl rfl];simp [f29,lU l j,G9,r,p,b,c,dw,K8,w,f,R,S,T,U,g,H];refine⟨_,?_,E⟩;rw [enter (sf:=f29) rfl rfl];simp [f29,lU l j,G9,r,p,b,c,dw,K8,w,f,R,S,T,U,hs];have x:n0=0:=by omega
  subst x;have X:0<U5 k0:=by unfold U5 at c1 ⊢;rw [if_neg hk3,if_neg (by omega)] at c1 ⊢;by_cases z1:k0=4∨k0=5;rw [if_pos z1];omega;rw [if_neg z1] at c1 ⊢;by_cases z2:6<=k0∧k0<=18;rw [if_pos z2];omega;rw [if_neg z2] at c1;exact absurd rfl c1
  have h:(a.length:Int)=U5 k0:=by omega
  have M:0<=U5 k0:=by omega
  have N:¬ U5 k0<0:=by omega
  by_cases hs:u=[];subst hs;obtain⟨M',g,q⟩:=Jg (n:=n+2) (fu:=fu) t (ih (n+2) (by omega)) E.ok (by rw [E.lim];exact J2 j E.nx) a ⟨s,y,z⟩ (by omega) (by omega);refine⟨M',?_,E.trans q⟩;rw [enter (sf:=f29) rfl rfl];simp [f29,lU l j,G9,r,p,b,c,dw,K8,c1,← h,hk1,hk2,hk3,g,H];refine⟨_,?_,E⟩;rw [enter (sf:=f29) rfl rfl];simp [f29,lU l j,G9,r,p,b,c,dw,K8,c1,← h,hk1,hk2,hk3,hs]
def exK:Ex->Int
 | .mk k _ _ _=>k
mutual
def fmS:kG->Bool
 | .mk k s e t f=>decide (1<=k)&&decide (k<=6)&&(if k=1∨k=2 then EZ s else decide (s=[]))&&decide (e.length≠0)&&(decide (e.length<=1)||decide (k=5)) &&
   (decide (t.length=0)||decide (k=3)||decide (k=4))&&(decide (f.length=0)||decide (k=3))&&(decide (k≠6)||decide ((e.map exK).head?=some 3))&&iC e&&VE t&&VE f
def VE:List kG->Bool
 | []=>true
 | s::l=>fmS s&&VE l
end
end
end Go.Proofs.YtcnimimffiiimaaGreatDoor.TT
