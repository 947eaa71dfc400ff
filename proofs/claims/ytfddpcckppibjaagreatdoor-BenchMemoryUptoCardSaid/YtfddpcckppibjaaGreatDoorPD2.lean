/- Names and well-formed expressions, walked; conditions: the memory holds what the arguments say. -/
import Derived.Test.YtfddpcckppibjaaGreatDoorPD1
set_option linter.all false
namespace Go.Proofs.YtfddpcckppibjaaGreatDoor.TT
open Go Go.AM
noncomputable section
def ajk (s:By):Nat:=if Cy (s.headD 0) then 1 else 3
def KX (s:By):List Tok->Bool
 | []=>false
 | t :: _=>decide (t=(ajk s,s))
def rsv:List By:=[[108,101,116],[105,102],[101,108,115,101],[119,104,105,108,101],[112,114,105,110,116],[97,110,100],[111,114],[110,111,116]]
def NM (s:By):Bool:=rsv.contains s
def Xw:List Tok->Bool
 | []=>false
 | t :: _=>decide (t.1=1) && !NM t.2
def pOp (lv:Int):List Tok->Option Int
 | []=>none
 | t :: _=>JZ lv (t.1:Int) t.2
def ap6:List Tok->Bool
 | []=>false
 | t :: _=>decide (t.1=2)
def txt (t:List Tok):By:=(t.headD (0,[])).2
mutual
def Fp:Nat->Nat->List Tok->Option (Ex×List Tok)
 | 0,_,_=>none
 | f+1,lv,t=>
  if lv=2 then
   if KX [110,111,116] t then (match Fp f 2 (t.drop 1) with | none=>none | some (x,r)=>some (.mk 5 0 [] [x],r)) else Fp f 3 t
  else if lv=6 then
   if KX [45] t then (match Fp f 6 (t.drop 1) with | none=>none | some (x,r)=>some (.mk 4 0 [] [x],r)) else ajl f t
  else match Fp f (lv+1) t with
   | none=>none
   | some (x,r)=>acH f lv x r
def acH:Nat->Nat->Ex->List Tok->Option (Ex×List Tok)
 | 0,_,_,_=>none
 | f+1,lv,x,t=>match pOp (lv:Int) t with
  | none=>some (x,t)
  | some k=>match Fp f (lv+1) (t.drop 1) with
   | none=>none
   | some (y,r)=>if lv=3 then some (.mk k 0 [] [x,y],r) else acH f lv (.mk k 0 [] [x,y]) r
def ajl:Nat->List Tok->Option (Ex×List Tok)
 | 0,_=>none
 | f+1,t=>
  if ap6 t then some (.mk 1 (ajc (txt t):Nat) [] [],t.drop 1)
  else if KX [40] t then
   match Fp f 0 (t.drop 1) with
   | none=>none
   | some (x,r)=>if KX [41] r then some (x,r.drop 1) else none
  else if Xw t then
   if KX [40] (t.drop 1) then
    if KX [41] (t.drop 2) then some (.mk 3 0 (txt t) [],t.drop 3)
    else match acI f (t.drop 2) with
     | none=>none
     | some (l,r)=>if KX [41] r then some (.mk 3 0 (txt t) l,r.drop 1) else none
   else some (.mk 2 0 (txt t) [],t.drop 1)
  else none
def acI:Nat->List Tok->Option (List Ex×List Tok)
 | 0,_=>none
 | f+1,t=>match Fp f 0 t with
  | none=>none
  | some (x,r)=>acJ f [x] r
def acJ:Nat->List Ex->List Tok->Option (List Ex×List Tok)
 | 0,_,_=>none
 | f+1,acc,t=>if KX [44] t then
    match Fp f 0 (t.drop 1) with
    | none=>none
    | some (y,r)=>acJ f (acc ++ [y]) r
  else some (acc,t)
end
def ajm (f:Nat)(k:Int)(t:List Tok):Option (ak×List Tok):=
 if Xw t then
  if KX [61] (t.drop 1) then
   match Fp f 0 (t.drop 2) with
   | none=>none
   | some (x,r)=>some (.mk k (txt t) [x] [] [],r)
  else none
 else none
def ajn (t:List Tok):Bool:=KX [40] (t.drop 1)&&Xw t
def ap7 (f:Nat)(t:List Tok):Option (ak×List Tok):=
 if KX [112,114,105,110,116] t then
  match acI f (t.drop 1) with
  | none=>none
  | some (l,r)=>some (.mk 5 [] l [] [],r)
 else if KX [108,101,116] t then ajm f 1 (t.drop 1)
 else if ajn t then
  match ajl f t with
  | none=>none
  | some (x,r)=>some (.mk 6 [] [x] [] [],r)
 else ajm f 2 t
mutual
def ap8:Nat->List Tok->Option (ak×List Tok)
 | 0,_=>none
 | f+1,t=>
  if KX [105,102] t then
   match Fp f 0 (t.drop 1) with
   | none=>none
   | some (x,r)=>match aeB f r with
    | none=>none
    | some (th,r2)=>if KX [101,108,115,101] r2 then
      match aeB f (r2.drop 1) with
      | none=>none
      | some (el,r3)=>some (.mk 3 [] [x] th el,r3)
     else some (.mk 3 [] [x] th [],r2)
  else if KX [119,104,105,108,101] t then
   match Fp f 0 (t.drop 1) with
   | none=>none
   | some (x,r)=>match aeB f r with
    | none=>none
    | some (th,r2)=>some (.mk 4 [] [x] th [],r2)
  else match ap7 f t with
   | none=>none
   | some (s,r)=>if KX [59] r then some (s,r.drop 1) else none
def aeB:Nat->List Tok->Option (List ak×List Tok)
 | 0,_=>none
 | f+1,t=>if KX [123] t then ajo f [] (t.drop 1) else none
def ajo:Nat->List ak->List Tok->Option (List ak×List Tok)
 | 0,_,_=>none
 | f+1,acc,t=>if KX [125] t then some (acc,t.drop 1) else
    match ap8 f t with
    | none=>none
    | some (s,r)=>ajo f (acc ++ [s]) r
end
def Am (r t:List Tok):Prop:=∀y∈r,y∈t
theorem Am.t {a b c:List Tok}(h:Am a b)(g:Am b c):Am a c:=λy d=>g y (h y d)
theorem Am.d {r t:List Tok}{n:Nat}(h:Am r (t.drop n)):Am r t:=λy a=>adZ (h y a)
theorem Am.e {r t:List Tok}{n:Nat}(h:Am r t):Am (r.drop n) t:=λy a=>h y (adZ a)
theorem Am.r (t:List Tok):Am t t:=λ_ h=>h
set_option maxRecDepth 100000
set_option maxHeartbeats 1000000
theorem jf.tail {M:Mem}{S:Nat->Prop}{rs:Nat}{v:d9}{t:List d9}{ts:List (List d9)}(g:M.Ok)(h:jf M S rs v (t::ts)):
  ∃v' nb,(∀(y a:OF) (ls:List d9) (env:T d9),y ls env=v->a ls env=.int .i64 1->lSl rs y (some a) none ls env M.nx=some (v',nb))∧jf (dz M nb) (λi=>S i∨M.nx<=i) rs v' ts∧Ext M (dz M nb):=by
 rcases h with⟨_,h⟩ | ⟨id,o,h0,h1,h2,h3⟩;cases h;rcases h3 with h3 | ⟨n,rows,h4,h5,h6,h7⟩;cases h3;have e:ts=[]∨∃n rows,M.get id=some (.cells rs n rows)∧o+1+ts.length<=n∧(∀r,r∈ts->r.length=rs)∧∀i (h:i<ts.length),rows.get (o+1+i)=some ts[i]:=by refine .inr ⟨n,rows,h4,by simp at h5;omega,λr k=>h6 r (by simp [k]),λi m=>?_⟩;have:=h7 (i+1) (by simp;omega);rw [show o+1+i=o+(i+1) from by omega,this];rfl
 have j:Nat.add (o*rs) (Nat.mul 1 rs)=(o+1)*rs:=by rw [acG];rfl
 rcases h1 with⟨c,rfl,hc⟩ | rfl;have f:ts.length+1<=c:=by simpa using hc
 refine⟨.slice id (bi (Nat.beq 1 c) (o*rs) (Nat.add (o*rs) (Nat.mul 1 rs))) ts.length (c-1),none,λy a ls env d b=>?_,?_,Ext.refl g⟩;show jQ (a ls env) (λl=>K6 M.nx rs (y ls env) l none)=_;rw [b,d];show bi (Nat.ble 1 (ts.length+1)) (bi (Nat.ble (ts.length+1) c) (some (d9.slice id (bi (Nat.beq 1 c) (o*rs) (Nat.add (o*rs) (Nat.mul 1 rs))) (Nat.sub (ts.length+1) 1) (Nat.sub c 1),none)) none) none=_;rw [show Nat.ble 1 (ts.length+1)=true from Y3 (by omega),show Nat.ble (ts.length+1) c=true from Y3 f];rfl;rw [iG];by_cases hc1:1=c;rw [if_pos hc1];have:ts=[]:=aa2.1 (by omega);subst this;exact .inr ⟨id,o,.inl h0,.inl ⟨c-1,rfl,by simp⟩,h2,.inl rfl⟩;rw [if_neg hc1,j];exact .inr ⟨id,o+1,.inl h0,.inl ⟨c-1,rfl,by omega⟩,h2,e⟩;by_cases ht:ts=[];subst ht;refine⟨.sliceU M.nx 0 0 rs,some (.tail id),λy a ls env d b=>?_,?_,(Ext.refl g).new _⟩;show jQ (a ls env) (λl=>K6 M.nx rs (y ls env) l none)=_;rw [b,d];show bi (Nat.beq rs rs) _ none=_;rw [show Nat.beq rs rs=true from aah rs];rfl;exact .inr ⟨M.nx,0,.inr (J2 _),.inr (by simp),by show M.nx<M.nx+1;omega,.inl rfl⟩;have p:=ae4.2 ht;refine⟨.sliceU id (Nat.add (o*rs) (Nat.mul 1 rs)) ts.length rs,none,λy a ls env d b=>?_,?_,Ext.refl g⟩;show jQ (a ls env) (λl=>K6 M.nx rs (y ls env) l none)=_;rw [b,d];show bi (Nat.ble 1 (ts.length+1)) (bi (Nat.ble (ts.length+1) (ts.length+1)) (bi (Nat.beq rs rs) (bi (Nat.blt 1 (ts.length+1)) (some (d9.sliceU id (Nat.add (o*rs) (Nat.mul 1 rs)) (Nat.sub (ts.length+1) 1) rs,none)) _) none) none) none=_;rw [show Nat.ble 1 (ts.length+1)=true from Y3 (by omega),show Nat.ble (ts.length+1) (ts.length+1)=true from Y3 (J2 _),show Nat.beq rs rs=true from aah rs,show Nat.blt 1 (ts.length+1)=true from X8.mpr (by omega)];rfl;rw [j];exact .inr ⟨id,o+1,.inl h0,.inr rfl,h2,e⟩
structure RD (S:Nat->Prop)(p:Nat)(M:Mem)(toks:List Tok):Prop where
 ok:M.Ok
 lt:p<M.nx
 lim:M.lim<=p
 np:¬ S p
 has:∃v,M.get p=some (o7 [v])∧jf M S 2 v (vD toks)
theorem RD.NJ {S:Nat->Prop}{p:Nat}{M:Mem}{a:List Tok}(h:RD S p M a):M.lim<=M.nx:=aP h.lim (afz h.lt)
theorem RD.ext {S:Nat->Prop}{p:Nat}{M a:Mem}{toks:List Tok}(h:RD S p M toks)(e:Ext M a):RD S p a toks:=by obtain⟨v,b,c⟩:=h.has;exact⟨e.ok,gq h.lt e.nx,by rw [e.lim];exact h.lim,h.np,v,(e.old p h.lt).trans b,c.mono e.nx (λi d _=>e.old i d) λ_ _ h=>h⟩
theorem RD.drop {S:Nat->Prop}{p:Nat}{M:Mem}{t:Tok}{ts:List Tok}(h:RD S p M (t::ts)):∃v v' nb,M.get p=some (o7 [v])∧fQ M 2 v (vD (t::ts))∧(∀(y a:OF) (ls:List d9) (env:T d9),y ls env=v->a ls env=.int .i64 1->lSl 2 y (some a) none ls env M.nx=some (v',nb))∧Go.AM.w9 v'=true∧v'.cells=[v']∧(dz M nb).get p=some (o7 [v])∧
  (dz M nb).lim<=p∧dO p M ((dz M nb).set p (o7 [v']))∧RD (λi=>S i∨M.nx<=i) p ((dz M nb).set p (o7 [v'])) ts:=by
 obtain⟨v,j,k⟩:=h.has;obtain⟨v',nb,l,f,c⟩:=jf.tail (t:=acE t) (ts:=vD ts) h.ok k;have b:p<(dz M nb).nx:=gq h.lt c.nx;have g:∀i,S i∨M.nx<=i->i≠p:=λi d m=>by subst m;rcases d with d | d;exact h.np d;have:=h.lt;omega
 refine⟨v,v',nb,j,k.slice,l,f.slice.w9,f.slice.cells,(c.old p h.lt).trans j,by rw [c.lim];exact h.lim,⟨Mem.Ok.set c.ok b _,by simpa using c.nx,by simpa using c.lim,λi d n=>by rw [J6 c.ok _ b n,c.old i d]⟩,
  Mem.Ok.set c.ok b _,by simpa using b,by show (dz M nb).lim<=p;rw [c.lim];exact h.lim,λe=>by rcases e with e | e;exact h.np e;have:=h.lt;omega,v',J9 c.ok _ b rfl,f.mono (by simp) (λi d o=>J6 c.ok _ b (g i o)) λ_ _ h=>h⟩
theorem RD.wide {S S':Nat->Prop}{p:Nat}{M:Mem}{toks:List Tok}(h:RD S p M toks)(c:∀i,i<M.nx->S i->S' i)(hp:¬ S' p):RD S' p M toks:=by obtain⟨v,a,b⟩:=h.has;exact⟨h.ok,h.lt,h.lim,hp,v,a,b.mono (J2 _) (λ_ _ _=>rfl) c⟩
theorem Xx {m:Mem}{v:d9}{s:By}{cf:D7}{fu:Nat}(l:List By)(z:l.length<=1000)(x:nK m v (strs l)):
  ∀(j i:Nat),i+j=l.length->∀(c3 c5 c6:d9) (N:Nat),j+1<=N->
  (s∉l.drop i∧∃c3' c5' c6',I4 (λenv m k=>qB cf fu none env m k) N (pJ v (iV (i:Int)) (iV (l.length:Int)) c3 (.str s) c5 c6 (iV 0)) m []=some [⟨.exit 0,(pJ v (iV (l.length:Int)) (iV (l.length:Int)) c3' (.str s) c5' c6' (iV 0)),m,[],none⟩])∨
  (s∈l.drop i∧∃(x1 x3 x5 x6:d9) (j:Nat),I4 (λenv m k=>qB cf fu none env m k) N (pJ v (iV (i:Int)) (iV (l.length:Int)) c3 (.str s) c5 c6 (iV 0)) m []=some [⟨.ret,(pJ v x1 (iV (l.length:Int)) x3 (.str s) x5 x6 (iV (j:Int))),m,[],none⟩]):=by
 intro j;induction j with
 | zero=>
  intro i u c3 c5 c6 N r;obtain⟨N,rfl⟩:∃k,N=k+1:=⟨N-1,by omega⟩;obtain rfl:i=l.length:=by omega
  refine .inl ⟨by simp,.bool false,c5,c6,?_⟩;rw [p9];simp [qB]
 | succ j ih=>
  intro i u c3 c5 c6 N r;obtain⟨N,rfl⟩:∃k,N=k+1:=⟨N-1,by omega⟩;have d:i<l.length:=by omega
  have e:(i:Int)<(l.length:Int):=by omega
  obtain⟨id,c,q,y,n⟩:=x.at (i:=i) (by rw [EW];omega);have p:(strs l)[i]'(by rw [EW];exact d)=.str l[i]:=List.getElem_map ..;rw [p] at n;have g:qD v none (λid c f _=>idx f (iV (i:Int)) λk=>some (d9.ptr id (c+k))) (λid c f _=>idx f (iV (i:Int)) λk=>some (d9.ptr id (c+k)))=some (.ptr id c):=by simpa using q
  have t:l.drop i=l[i]::l.drop (i+1):=Y8 d;rw [t];by_cases hs:s=l[i];refine .inr ⟨by rw [hs];exact acr,iV (i:Int),.bool true,iV (i:Int),.bool true,i,?_⟩;rw [p9];simp [qB,d,e,g,n,← hs,D5];have o:=ih (i+1) (by omega) tt (iV (i:Int)) ff N (by omega);have h:I4 (λenv m k=>qB cf fu none env m k) (N+1) (pJ v (iV (i:Int)) (iV (l.length:Int)) c3 (.str s) c5 c6 (iV 0)) m []=I4 (λenv m k=>qB cf fu none env m k) N (pJ v (.int .i64 ((i+1:Nat):Int)) (iV (l.length:Int)) tt (.str s) (iV (i:Int)) ff (iV 0)) m []:=by rw [p9];simp [qB,d,e,g,n,hs,D5,P9 (i:=i) (by omega)]
  rw [h];rcases o with⟨a,b⟩ | ⟨a,b⟩;exact .inl ⟨λw=>(Z4.1 w).elim hs a,b⟩;exact .inr ⟨Z5 _ a,b⟩
theorem aay {m:Mem}{v:d9}{s:By}(l:List By)(i:l.length<=1000)(f:nK m v (strs l))(n fu:Nat)(h:2000<=fu):
  j6 KW fu (n+2) (.func 199) [v,.str s] m=some [⟨.bool (decide (s∈l)),m⟩]:=by
 have b:=f.len;rw [EW] at b;have e:(s∉l∧j6 KW fu (n+1) (.func 250) [v,.str s] m=some [⟨iV (-1),m⟩])∨(s∈l∧∃j:Nat,j6 KW fu (n+1) (.func 250) [v,.str s] m=some [⟨iV (j:Int),m⟩]):=by rcases Xx (s:=s) (cf:=j6 KW fu n) (fu:=fu) l i f l.length 0 (by omega) .undef .undef .undef fu (by omega) with⟨a,c3',c5',c6',g⟩ | ⟨a,x1,x3,x5,x6,j,g⟩;have d:I4 (λc m k=>qB (j6 KW fu n) fu none c m k) fu (pJ v (iV 0) (iV (l.length:Int)) .undef (.str s) .undef .undef (iV 0)) m []=_:=g;refine .inl ⟨by simpa using a,?_⟩;rw [enter (sf:=f250) rfl rfl];simp [f250,b,d];have d:I4 (λc m k=>qB (j6 KW fu n) fu none c m k) fu (pJ v (iV 0) (iV (l.length:Int)) .undef (.str s) .undef .undef (iV 0)) m []=_:=g;refine .inr ⟨by simpa using a,j,?_⟩;rw [enter (sf:=f250) rfl rfl];simp [f250,b,d]
 rw [enter (sf:=f199) rfl rfl];rcases e with⟨a,g⟩ | ⟨a,j,g⟩;simp [f199,g,a];have:(0:Int)<=(j:Int):=by omega
 simp [f199,g,a,this]
theorem bs8 (ls:List d9)(env:T d9)(a:Nat):U6 1 8 [.str []] [(0,1,C9 (.str [108,101,116])),(1,1,C9 (.str [105,102])),(2,1,C9 (.str [101,108,115,101])),(3,1,C9 (.str [119,104,105,108,101])),(4,1,C9 (.str [112,114,105,110,116])),(5,1,C9 (.str [97,110,100])),(6,1,C9 (.str [111,114])),(7,1,C9 (.str [110,111,116]))] ls env a=some (.slice a 0 8 8,some (.cells 1 8 (T.ofList ((strs rsv).map ([·]))))):=rfl
theorem aaz {m:Mem}(b:m.Ok)(s:By)(n fu:Nat)(a:2000<=fu):∃m',j6 KW fu (n+3) (.func 108) [.str s] m=some [⟨.bool (NM s),m'⟩]∧Ext m m':=by
 have E:=G7 b [.cells 1 8 (T.ofList ((strs rsv).map ([·])))];have c:nK (ext m [.cells 1 8 (T.ofList ((strs rsv).map ([·])))]) (.slice m.nx 0 8 8) (strs rsv):=aeu b (strs rsv);have g:=aay (s:=s) rsv (by decide) c n fu a;have e:decide (s∈rsv)=NM s:=by unfold NM;rw [List.contains_eq_mem]
 rw [e] at g;refine⟨_,?_,E⟩;rw [enter (sf:=f108) rfl rfl];simp [f108,H8,I8,bs8,g]
def eT (f:Ex->Int->Int):List Ex->Int->Int->Int
 | [],n,_=>n
 | e::l,n,most=>if n<=most then eT f l (n+f e (most-n)) most else n
def Fq:Ex->List Ex
 | .mk _ _ _ a=>a
def wX:Nat->Ex->Int->Int
 | 0,_,most=>most+1
 | d+1,e,most=>eT (wX d) (Fq e) 1 most
def stN:ak->List UInt8
 | .mk _ s _ _ _=>s
def stE:ak->List Ex
 | .mk _ _ e _ _=>e
def stT:ak->List ak
 | .mk _ _ _ t _=>t
def stF:ak->List ak
 | .mk _ _ _ _ f=>f
def Uf (F:List ak->Int->Int)(X:Ex->Int->Int):List ak->Int->Int->Int
 | [],n,_=>n
 | s::l,n,most=>if n<=most then
    Uf F X l (eT X (stE s) (n+1+((stN s).length / 100:Nat)+F (stT s) (most-n)+F (stF s) (most-n)) most) most else n
def wS:Nat->List ak->Int->Int
 | 0,_,most=>most+1
 | d+1,l,most=>Uf (wS d) (wX d) l 0 most
theorem zT (f:Ex->Int->Int)(hf:∀e most,0<=most->0<=f e most):∀(l:List Ex) (n most:Int),n<=eT f l n most
 | [],n,most=>Int.le_refl _
 | e::l,n,most=>by rw [eT];split;have h1:=hf e (most-n) (by omega);have h2:=zT f hf l (n+f e (most-n)) most;omega;omega
theorem NP (f:Ex->Int->Int)(hf:∀e most,0<=most->f e most<=most+1):∀(l:List Ex) (n most:Int),eT f l n most<=max n (most+1)
 | [],n,most=>by rw [eT];omega
 | e::l,n,most=>by rw [eT];split;have h1:=hf e (most-n) (by omega);have h2:=NP f hf l (n+f e (most-n)) most;omega;omega
theorem Fu:∀(d:Nat) (e:Ex) (most:Int),0<=most->1<=wX d e most∧wX d e most<=most+1
 | 0,e,most,h=>by rw [wX];omega
 | d+1,e,most,h=>by rw [wX];have h1:=zT (wX d) (λe m hm=>by have:=Fu d e m hm;omega) (Fq e) 1 most;have h2:=NP (wX d) (λe m hm=>(Fu d e m hm).2) (Fq e) 1 most;omega
theorem Bb (d:Nat)(hd:∀(e:Ex)(most:Int),0<=most->wX d e most<=most->wX d e most=(iJ e:Int)∧gQ e<=d):
  ∀(l:List Ex) (n most:Int),eT (wX d) l n most<=most->eT (wX d) l n most=n+(R5 l:Int)∧U5 l<=d
 | [],n,most,h=>by simp [eT,R5,U5]
 | e::l,n,most,h=>by rw [eT] at h ⊢;split at h;rename_i hn;rw [if_pos hn];have hg:=zT (wX d) (λe m hm=>by have:=Fu d e m hm;omega) l (n+wX d e (most-n)) most;obtain⟨h1,h2⟩:=hd e (most-n) (by omega) (by omega);obtain⟨h3,h4⟩:=Bb d hd l _ most h;rw [h3,h1,R5,U5];exact⟨by omega,by omega⟩;omega
theorem Xy:∀(d:Nat) (e:Ex) (most:Int),0<=most->wX d e most<=most->wX d e most=(iJ e:Int)∧gQ e<=d
 | 0,e,most,h0,h=>by rw [wX] at h;omega
 | d+1,.mk k n s a,most,h0,h=>by rw [wX] at h ⊢;obtain⟨h1,h2⟩:=Bb d (Xy d) a 1 most h;exact⟨by rw [Fq,h1,iJ];omega,by rw [gQ];omega⟩
mutual
def stW:ak->Nat
 | .mk _ s e t f=>1+s.length / 100+CJ t+CJ f+R5 e
def CJ:List ak->Nat
 | []=>0
 | s::l=>stW s+CJ l
end
mutual
def uW:ak->Nat
 | .mk _ s e t f=>1300+s.length+tO t+tO f+700*e.length
def tO:List ak->Nat
 | []=>0
 | s::l=>uW s+tO l
end
theorem Bc (d:Nat)(l:List Ex)(n most:Int):n<=eT (wX d) l n most:=zT (wX d) (λe m a=>by have:=Fu d e m a;omega) l n most
theorem IE (d:Nat):∀(l:List Ex) (n most:Int),0<=n->most<=600->eT (wX d) l n most<=n+700*(l.length:Int)
 | [],n,most,h0,h=>by simp [eT]
 | e::l,n,most,h0,h=>by rw [eT];split;have h1:=Fu d e (most-n) (by omega);have h2:=IE d l (n+wX d e (most-n)) most (by omega) h;rw [Y1];omega;rw [Y1];omega
theorem Qq (d:Nat)(hF:∀(l:List ak)(most:Int),0<=most->most<=600->0<=wS d l most∧wS d l most<=601+(tO l:Int)):
  ∀(l:List ak) (n most:Int),0<=n->most<=600->n<=Uf (wS d) (wX d) l n most∧Uf (wS d) (wX d) l n most<=n+(tO l:Int)
 | [],n,most,h0,h=>by simp [Uf,tO]
 | .mk k s e t f::l,n,most,h0,h=>by rw [Uf,tO,uW];split;rename_i hn;obtain⟨a1,a2⟩:=hF t (most-n) (by omega) (by omega);obtain⟨b1,b2⟩:=hF f (most-n) (by omega) (by omega);have hdiv:s.length / 100<=s.length:=aj1 _ _;simp only [stN,stE,stT,stF];have c1:=Bc d e (n+1+(s.length / 100:Nat)+wS d t (most-n)+wS d f (most-n)) most;have c2:=IE d e (n+1+(s.length / 100:Nat)+wS d t (most-n)+wS d f (most-n)) most (by omega) h;generalize eT (wX d) e (n+1+(s.length / 100:Nat)+wS d t (most-n)+wS d f (most-n)) most=y at c1 c2 ⊢;obtain⟨e1,e2⟩:=Qq d hF l y most (by omega) h;exact⟨by omega,by omega⟩;exact⟨by omega,by omega⟩
theorem IG:∀(d:Nat) (l:List ak) (most:Int),0<=most->most<=600->0<=wS d l most∧wS d l most<=601+(tO l:Int)
 | 0,l,most,h0,h=>by rw [wS];omega
 | d+1,l,most,h0,h=>by rw [wS];obtain⟨h1,h2⟩:=Qq d (IG d) l 0 most (by omega) h;exact⟨by omega,by omega⟩
theorem RH (d:Nat)(hF:∀(l:List ak)(most:Int),0<=most->most<=600->wS d l most<=most->wS d l most=(CJ l:Int)∧aR l<=d):
  ∀(l:List ak) (n most:Int),0<=n->most<=600->Uf (wS d) (wX d) l n most<=most->Uf (wS d) (wX d) l n most=n+(CJ l:Int)∧aR l<=d+1
 | [],n,most,h0,hm,h=>by simp [Uf,CJ,aR]
 | .mk k s e t f::l,n,most,h0,hm,h=>by rw [Uf] at h ⊢;split at h;rename_i hn;rw [if_pos hn];have a1:=IG d t (most-n) (by omega) (by omega);have b1:=IG d f (most-n) (by omega) (by omega);simp only [stN,stE,stT,stF] at h ⊢;have c1:=Bc d e (n+1+(s.length / 100:Nat)+wS d t (most-n)+wS d f (most-n)) most;have e1:=(Qq d (IG d) l (eT (wX d) e (n+1+(s.length / 100:Nat)+wS d t (most-n)+wS d f (most-n)) most) most (by omega) hm).1;obtain⟨g1,g2⟩:=RH d hF l _ most (by omega) hm h;obtain⟨t1,t2⟩:=hF t (most-n) (by omega) (by omega) (by omega);obtain⟨f1,f2⟩:=hF f (most-n) (by omega) (by omega) (by omega);obtain⟨x1,x2⟩:=Bb d (Xy d) e _ most (by omega:eT (wX d) e (n+1+(s.length / 100:Nat)+wS d t (most-n)+wS d f (most-n)) most<=most);rw [g1,x1,t1,f1,CJ,stW,aR,wh];exact⟨by omega,by omega⟩;omega
theorem Xz:∀(d:Nat) (l:List ak) (most:Int),0<=most->most<=600->wS d l most<=most->wS d l most=(CJ l:Int)∧aR l<=d
 | 0,l,most,h0,hm,h=>by rw [wS] at h;omega
 | d+1,l,most,h0,hm,h=>by rw [wS] at h ⊢;obtain⟨h1,h2⟩:=RH d (Xz d) l 0 most (by omega) hm h;exact⟨by omega,h2⟩
mutual
theorem ajq:∀s:ak,stP s<=stW s
 | .mk _ s e t f=>by rw [stP,stW];have:=Ky t;have:=Ky f;omega
theorem Ky:∀l:List ak,Z0 l<=CJ l
 | []=>by rw [Z0,CJ];exact J2 _
 | s::l=>by rw [Z0,CJ];have:=ajq s;have:=Ky l;omega
end
theorem Ug {l:List ak}(h:wS 26 l 600<=600):Z0 l<=600∧aR l<=26∧CJ l<=600:=by obtain⟨b,a⟩:=Xz 26 l 600 (by omega) (by omega) h;have:=Ky l;exact⟨by omega,a,by omega⟩
set_option maxHeartbeats 8000000
def C67 (n fu d:Nat):Prop:=∀(m:Mem) (row:List d9) (e:Ex) (most:Int) (dp:Nat),m.Ok->m.lim<=m.nx->au m (λ_=>True) e row->iJ e<=2000000->0<=most->most<=600->dp+d=27->
 ∃m',j6 KW fu n (.func 12) [.agg row,iV most,iV (dp:Int)] m=some [⟨iV (wX d e most),m'⟩]∧Ext m m'
theorem aaA {n fu d dp:Nat}(O:dp+d=26)(u:C67 n fu d){most:Int}(T:most<=600){m:Mem}{p:Nat}(hm:m.Ok)(hp:p<m.nx)(Q:m.lim<=m.nx){R:List d9}{Z n0:Int}{s0:List UInt8}{v:d9}{rows:List (List d9)}(F:m.get p=some (o7 (r4 Z n0 s0 v)))(a:List Ex)(s:jf m (λ_=>True) 4 v rows)(D:D9 m (λ_=>True) a rows)(V:R5 a<=2000000):
  ∀(j i:Nat),i+j=a.length->∀(x:Int) (c:d9) (M:Mem) (N:Nat),Ext m M->0<=x->x<=601->most-x+2<=(N:Int)->1<=N->
  ∃i' c' M',I4 (λenv m k=>Im (j6 KW fu n) fu none env m k) N (nV9 (.agg R) (iV (dp:Int)) ff (iV most) (iV (i:Int)) (.ptr p 0) (iV x) c (iV 0)) M [] =
   some [⟨.exit 0,(nV9 (.agg R) (iV (dp:Int)) ff (iV most) (iV i') (.ptr p 0) (.int .i64 (eT (wX d) (a.drop i) x most)) c' (iV 0)),M',[],none⟩]∧Ext m M':=by
 have o:=D9.len D;have b:=s.slice.len;rw [o] at b;have S:=Q8 a;have cv:=s.slice.cells;have ov:=s.slice.w9;intro j;induction j with
 | zero=>
  intro i P x c M N E B C L z;obtain⟨N,rfl⟩:∃k,N=k+1:=⟨N-1,by omega⟩;obtain rfl:i=a.length:=by omega
  have f:=(E.old p hp).trans F;refine⟨(a.length:Int),.bool false,M,?_,E⟩;rw [p9,ac1,eT];simp [Im,f,b]
 | succ j ih=>
  intro i P x c M N E B C L z;obtain⟨N,rfl⟩:∃k,N=k+1:=⟨N-1,by omega⟩;have e:i<a.length:=by omega
  have g:i<rows.length:=by omega
  have h:(i:Int)<(a.length:Int):=by omega
  have K:=E.ok;have w:M.lim<=M.nx:=by rw [E.lim];exact aP Q E.nx
  have f:=(E.old p hp).trans F;have A:a.drop i=a[i]::a.drop (i+1):=Y8 e;rw [A,eT];by_cases hx:x<=most;obtain⟨Y,o1,G,a2,a3,H,a5⟩:=(s.slice.ext E).at g;have l:=D9.get D i e g;have W:=l.row;have r:=H 0 4 (by omega) (by omega);rw [U9,W9 (by omega),Y6] at r;have U:=jh a i e;have q:au M (λ_=>True) a[i] rows[i]:=Gs E l;generalize hX:a[i]=X at *;generalize hR:rows[i]=R1 at *;obtain⟨m2,I,E2⟩:=u M R1 X (most-x) (dp+1) K w q (by omega) (by omega) (by omega) (by omega);have hw:=Fu d X (most-x) (by omega);generalize wX d X (most-x)=y at *;obtain⟨i',c',M',J,q1⟩:=ih (i+1) (by omega) (x+y) tt m2 N (E.trans E2) (by omega) (by omega) (by omega) (by omega);refine⟨i',c',M',?_,q1⟩;rw [if_pos hx];have w1:mK (most-x)=most-x:=O0 (by omega) (by omega);have w2:mK ((dp:Int)+1)=(dp:Int)+1:=O0 (by omega) (by omega);have w3:mK (x+y)=x+y:=O0 (by omega) (by omega);have t:j6 KW fu n (.func 12) [.agg R1,iV (most-x),.int .i64 ((dp:Int)+1)] M=_:=I;rw [p9,← J];simp [Im,f,b,e,h,hx,G,r,t,w1,w2,w3,P9 (i:=i) (by omega)];refine⟨(i:Int),.bool false,M,?_,E⟩;rw [if_neg hx,p9];simp [Im,f,b,e,h,hx]
theorem aeC (fu:Nat)(J:20000<=fu):∀d n:Nat,d<=27->d+1<=n->C67 n fu d:=by
 intro d;induction d with
 | zero=>
  intro n I L m C e most dp q u h F H t z;obtain⟨n,rfl⟩:∃k,n=k+1:=⟨n-1,by omega⟩;obtain rfl:dp=27:=by omega
  obtain⟨j,l,o,a⟩:=e;obtain⟨v,s,rfl,b,D⟩:=h;have B:=b.slice.w9;have w:=b.slice.cells;have N:mK (most+1)=most+1:=O0 (by omega) (by omega);refine⟨ext m [o7 (r4 j l o v)],?_,G7 q _⟩;rw [enter (sf:=f12) rfl rfl];simp [f12,aX q u,w9,wX,N,B,w]
 | succ d ih=>
  intro n I L m C e most dp q u h F H A z;obtain⟨n,rfl⟩:∃k,n=k+1:=⟨n-1,by omega⟩;obtain⟨j,l,o,a⟩:=e;obtain⟨v,s,rfl,t,D⟩:=h;have B:=t.slice.w9;have w:=t.slice.cells;rw [iJ] at F;have E:=G7 q [o7 (r4 j l o v)];have b:=jf.mono (m':=ext m [o7 (r4 j l o v)]) t E.nx (λi K _=>E.old i K) (S':=λ_=>True) λ_ _ h=>h;have y:=Gt E D;obtain⟨P,O,M',g,M⟩:=aaA (n:=n) (d:=d) (dp:=dp) (p:=m.nx) (R:=(r4 j l o v)) (most:=most) (by omega) (ih n (by omega) (by omega)) A E.ok (by simp) (by rw [E.lim];exact aP u E.nx) (by rw [A8 q];rfl) a b y (by omega) a.length 0 (by omega) 1 .undef (_) fu (Ext.refl E.ok) (by omega) (by omega) (by omega) (by omega);have G:I4 (λx m k=>Im (j6 KW fu n) fu none x m k) fu (nV9 (.agg (r4 j l o v)) (iV (dp:Int)) ff (iV most) (iV 0) (.ptr m.nx 0) (iV 1) .undef (iV 0)) (ext m [o7 (r4 j l o v)]) []=_:=g;refine⟨M',?_,E.trans M⟩;have r:decide (26<(dp:Int))=false:=decide_eq_false (by omega);have c:¬ (26<(dp:Int)):=by omega
  have f:¬ (26<dp):=by omega
  rw [enter (sf:=f12) rfl rfl,wX,Fq];simp [f12,aX q u,w9,G,B,w,r,c,f]
theorem Uh {n fu d dp:Nat}(Y:dp+d=26)(z:C67 n fu d){most:Int}(a6:most<=600){m:Mem}(hm:m.Ok)(Z:m.lim<=m.nx){v:d9}{rows:List (List d9)}(I:jf m (λ_=>True) 5 v rows){i:Nat}(K:i<rows.length)
  {k0:Int} {s0:List UInt8} {L vt vf:d9} (J:rows[i]=(r5 k0 s0 L vt vf)) {t:List (List d9)} (a:List Ex) (g1:jf m (λ_=>True) 4 L t) (H:D9 m (λ_=>True) a t) (a8:R5 a<=2000000) (G:d9):
  ∀(j q:Nat),q+j=a.length->∀(x:Int) (c:d9) (M:Mem) (N:Nat),Ext m M->0<=x->most-x+2<=(N:Int)->1<=N->
  ∃k' c' M',I4 (λenv m k=>Io (j6 KW fu n) fu none env m k) N (yw (iV (dp:Int)) ff (iV most) (iV (i:Int)) v (iV x) G (iV (q:Int)) c (iV 0)) M [] =
   some [⟨.exit 2,(yw (iV (dp:Int)) ff (iV most) (iV (i:Int)) v (.int .i64 (eT (wX d) (a.drop q) x most)) G k' c' (iV 0)),M',[],none⟩]∧Ext m M':=by
 have o:=D9.len H;have b:=g1.slice.len;rw [o] at b;have a0:=Q8 a;intro j;induction j with
 | zero=>
  intro q hq x c M N E D W B;obtain⟨N,rfl⟩:∃k,N=k+1:=⟨N-1,by omega⟩;obtain rfl:q=a.length:=by omega
  obtain⟨F,o1,u,O,P,Q,r⟩:=(I.slice.ext E).at K;rw [J] at r;have f:=r 2 (by omega);refine⟨iV (a.length:Int),.bool false,M,?_,E⟩;rw [p9,ac1,eT];simp [Io,u,f,b]
 | succ j ih=>
  intro q hq x c M N E D W B;obtain⟨N,rfl⟩:∃k,N=k+1:=⟨N-1,by omega⟩;have e:q<a.length:=by omega
  have g:q<t.length:=by omega
  have h:(q:Int)<(a.length:Int):=by omega
  have V:=E.ok;have A:M.lim<=M.nx:=by rw [E.lim];exact aP Z E.nx
  obtain⟨F,o1,u,O,P,Q,r⟩:=(I.slice.ext E).at K;rw [J] at r;have f:=r 2 (by omega);have C:a.drop q=a[q]::a.drop (q+1):=Y8 e;rw [C,eT];by_cases hx:x<=most;obtain⟨a9,o2,R,b2,b3,S,b5⟩:=(g1.slice.ext E).at g;have l:=D9.get H q e g;have s:=S 0 4 (by omega) (by omega);rw [U9,W9 (by have:=l.row;omega),Y6] at s;have a7:=jh a q e;have p:au M (λ_=>True) a[q] t[q]:=Gs E l;generalize hX:a[q]=X at *;generalize hR1:t[q]=R1 at *;obtain⟨m2,T,E2⟩:=z M R1 X (most-x) (dp+1) V A p (by omega) (by omega) (by omega) (by omega);have hw:=Fu d X (most-x) (by omega);generalize wX d X (most-x)=y at *;obtain⟨k',c',M',U,q1⟩:=ih (q+1) (by omega) (x+y) tt m2 N (E.trans E2) (by omega) (by omega) (by omega);refine⟨k',c',M',?_,q1⟩;rw [if_pos hx];have w1:mK (most-x)=most-x:=O0 (by omega) (by omega);have w2:mK ((dp:Int)+1)=(dp:Int)+1:=O0 (by omega) (by omega);have w3:mK (x+y)=x+y:=O0 (by omega) (by omega);have w:j6 KW fu n (.func 12) [.agg R1,iV (most-x),.int .i64 ((dp:Int)+1)] M=_:=T;rw [p9,← U];simp [Io,u,f,b,e,h,hx,R,s,w,w1,w2,w3,P9 (i:=q) (by omega)];refine⟨iV (q:Int),.bool false,M,?_,E⟩;rw [if_neg hx,p9];simp [Io,u,f,b,e,h,hx]
theorem oV (n:Nat)(s:By):aB (n+1) (.str s) (.str s)=true:=by show strEq s s=true;rw [gV];simp
theorem eH {m:Mem}{rs:Nat}{v:d9}{l:List (List d9)}(h:fQ m rs v l)(n:Nat):aB (n+1) v v=true:=by rcases h with⟨rfl,_⟩ | ⟨id,o,⟨c,rfl,_⟩ | rfl,_⟩;rfl;show bi (Nat.beq id id) (bi (Nat.beq _ _) (bi (Nat.beq _ _) (Nat.beq _ _) false) false) false=true;simp [iG];show bi (Nat.beq id id) (bi (Nat.beq _ _) (bi (Nat.beq _ _) (Nat.beq _ _) false) false) false=true;simp [iG]
theorem aeD {n:Nat}(h:n<=9000000000):Lc .i64 (n:Int) 100=some (.int .i64 ((n / 100:Nat):Int)):=by show some (d9.int .i64 (mK ((n / 100:Nat):Int)))=_;rw [O0 (by omega) (by omega)]
def C32 (n fu d:Nat):Prop:=∀(m:Mem) (v:d9) (l:List ak) (most:Int) (dp:Nat),m.Ok->m.lim<=m.nx->U2 m (λ_=>True) l v->Z0 l<=2000000->tO l<=4000000000->0<=most->most<=600->dp+d=27->
 ∃m',j6 KW fu n (.func 17) [v,iV most,iV (dp:Int)] m=some [⟨iV (wS d l most),m'⟩]∧Ext m m'
theorem NQ:∀(l:List ak) (i:Nat) (h:i<l.length),uW l[i]<=tO l
 | e::l,0,h=>by simp [tO]
 | e::l,i+1,h=>by have:=NQ l i (by simpa using h);simp [tO];omega
theorem aaB {n fu d dp:Nat}(a6:20000<=fu)(Q:dp+d=26)(J:C67 n fu d)(A:C32 n fu d){most:Int}(S:most<=600){m:Mem}(hm:m.Ok)(R:m.lim<=m.nx){v:d9}{rows:List (List d9)}(l:List ak)(w:jf m (λ_=>True) 5 v rows)(h2:H7 m (λ_=>True) l rows)(a9:Z0 l<=2000000)(a0:tO l<=4000000000):
  ∀(j i:Nat),i+j=l.length->∀(x:Int) (c6 k c8:d9) (M:Mem) (N:Nat),Ext m M->0<=x->most-x+2<=(N:Int)->1<=N->
  ∃i' c6' k' c8' M',I4 (λenv m k=>Ip (j6 KW fu n) fu none env m k) N (yw (iV (dp:Int)) ff (iV most) (iV (i:Int)) v (iV x) c6 k c8 (iV 0)) M [] =
   some [⟨.exit 0,(yw (iV (dp:Int)) ff (iV most) (iV i') v (.int .i64 (Uf (wS d) (wX d) (l.drop i) x most)) c6' k' c8' (iV 0)),M',[],none⟩]∧Ext m M':=by
 have p:=H7.len h2;have b:=w.slice.len;rw [p] at b;have a8:=bD l;intro j;induction j with
 | zero=>
  intro i hi x c6 k c8 M N E U hN L;obtain⟨N,rfl⟩:∃k,N=k+1:=⟨N-1,by omega⟩;obtain rfl:i=l.length:=by omega
  refine⟨(l.length:Int),.bool false,k,c8,M,?_,E⟩;rw [p9,ac1,Uf];simp [Ip,b]
 | succ j ih=>
  intro i hi x c6 k c8 M N E U hN L;obtain⟨N,rfl⟩:∃k,N=k+1:=⟨N-1,by omega⟩;have c:i<l.length:=by omega
  have a:i<rows.length:=by omega
  have h:(i:Int)<(l.length:Int):=by omega
  have hM:=E.ok;have K:M.lim<=M.nx:=by rw [E.lim];exact aP R E.nx
  have P:l.drop i=l[i]::l.drop (i+1):=Y8 c;rw [P,Uf];by_cases hx:x<=most;rw [if_pos hx];have B:=H7.get h2 i c a;have T:=mE l i c;have O:=NQ l i c;generalize hX:l[i]=X at *;obtain⟨k0,F,e,t,f⟩:=X;obtain⟨ve,vt,vf,re,rt,rf,D,e1,e2,t1,t2,Z,f2⟩:=B;rw [stP] at T;rw [uW] at O;have tM:U2 M (λ_=>True) t vt:=U2.ext ⟨rt,t1,t2⟩ E;obtain⟨W,g2,E2⟩:=A M vt t (most-x) (dp+1) hM K tM (by omega) (by omega) (by omega) (by omega) (by omega);have E2':=E.trans E2;have fM:U2 W (λ_=>True) f vf:=U2.ext ⟨rf,Z,f2⟩ E2';obtain⟨m3,g3,E3⟩:=A W vf f (most-x) (dp+1) E2.ok (by rw [E2'.lim];exact aP R E2'.nx) fM (by omega) (by omega) (by omega) (by omega) (by omega);have E3':=E2'.trans E3;have ht:=IG d t (most-x) (by omega) (by omega);have hf:=IG d f (most-x) (by omega) (by omega);simp only [stN,stE,stT,stF];generalize wS d t (most-x)=y at *;generalize wS d f (most-x)=z at *;have hq:F.length / 100<=F.length:=aj1 _ _;have qq:=aeD (n:=F.length) (by omega);generalize F.length / 100=q0 at *;obtain⟨k',c',M4,g4,E4⟩:=Uh (n:=n) (fu:=fu) (d:=d) (dp:=dp) Q J S hm R w a D e e1 e2 (by omega) tt e.length 0 (by omega) (x+1+(q0:Int)+y+z) c8 m3 fu E3' (by omega) (by omega) (by omega);have a7:=Bc d e (x+1+(q0:Int)+y+z) most;rw [U9] at g4;generalize eT (wX d) e (x+1+(q0:Int)+y+z) most=r at *;obtain⟨i',c6',V,c8',M',gg,q1⟩:=ih (i+1) (by omega) r tt k' c' M4 N E4 (by omega) (by omega) (by omega);refine⟨i',c6',V,c8',M',?_,q1⟩;obtain⟨aa,o1,Y,a2,a3,a4,C⟩:=(w.slice.ext E).at a;rw [D] at C;have b3:=C 3 (by omega);obtain⟨ab,o2,q,_,_,_,o⟩:=(w.slice.ext E2').at a;rw [D] at o;have b4:=o 4 (by omega);obtain⟨ac,o3,g,_,_,_,u⟩:=(w.slice.ext E3').at a;rw [D] at u;have b1:=u 1 (by omega);rw [Y] at q g;cases q;cases g;have d1:=C 1 (by omega);have d4:=C 4 (by omega);have d2:=o 1 (by omega)
  have ss:∀s:List UInt8,aB 100 (.str s) (.str s)=true:=λs=>oV 99 s;have sf:aB 100 vf vf=true:=eH Z.slice 99;have w1:mK (most-x)=most-x:=O0 (by omega) (by omega);have w2:mK ((dp:Int)+1)=(dp:Int)+1:=O0 (by omega) (by omega);have w3:mK (x+1)=x+1:=O0 (by omega) (by omega);have w4:mK (x+1+(q0:Int))=x+1+(q0:Int):=O0 (by omega) (by omega);have w5:mK (x+1+(q0:Int)+y)=x+1+(q0:Int)+y:=O0 (by omega) (by omega);have w6:mK (x+1+(q0:Int)+y+z)=x+1+(q0:Int)+y+z:=O0 (by omega) (by omega);have G:j6 KW fu n (.func 17) [vt,iV (most-x),.int .i64 ((dp:Int)+1)] M=_:=g2;have H:j6 KW fu n (.func 17) [vf,iV (most-x),.int .i64 ((dp:Int)+1)] W=_:=g3;have I:I4 (λenv m k=>Io (j6 KW fu n) fu none env m k) fu (yw (iV (dp:Int)) ff (iV most) (iV (i:Int)) v (.int .i64 (x+1+(q0:Int)+y+z)) tt (iV 0) c8 (iV 0)) m3 []=_:=g4;rw [p9,← gg];simp [Ip,b,c,h,hx,Y,b3,b4,b1,G,H,I,w1,w2,w3,w4,w5,w6,d1,d2,d4,ss,sf,qq,P9 (i:=i) (by omega)];refine⟨(i:Int),.bool false,k,c8,M,?_,E⟩;rw [if_neg hx,p9];simp [Ip,b,c,h,hx]
theorem aeE (fu:Nat)(e:20000<=fu):∀d n:Nat,d<=27->d+1<=n->C32 n fu d:=by
 intro d;induction d with
 | zero=>
  intro n z A m v l most dp c f h r q x p j;obtain⟨n,rfl⟩:∃k,n=k+1:=⟨n-1,by omega⟩;obtain rfl:dp=27:=by omega
  have C:mK (most+1)=most+1:=O0 (by omega) (by omega);refine⟨m,?_,Ext.refl c⟩;rw [enter (sf:=f17) rfl rfl];simp [f17,aX c f,w9,wS,C]
 | succ d ih=>
  intro n z A m v l most dp c f h r q x o j;obtain⟨n,rfl⟩:∃k,n=k+1:=⟨n-1,by omega⟩;obtain⟨s,p,y⟩:=h;obtain⟨D,t,E,u,M',g,B⟩:=aaB (n:=n) (d:=d) (dp:=dp) (most:=most) e (by omega) (aeC fu e d n (by omega) (by omega)) (ih n (by omega) (by omega)) o c f l p y r q l.length 0 (by omega) 0 .undef .undef .undef m fu (Ext.refl c) (by omega) (by omega) (by omega);have w:I4 (λi m k=>Ip (j6 KW fu n) fu none i m k) fu (yw (iV (dp:Int)) ff (iV most) (iV 0) v (iV 0) .undef .undef .undef (iV 0)) m []=_:=g;refine⟨M',?_,B⟩;have a:¬ (26<(dp:Int)):=by omega
  have b:¬ (26<dp):=by omega
  rw [enter (sf:=f17) rfl rfl,wS];simp [f17,aX c f,w9,w,a,b]
theorem ajr {n fu:Nat}(p:28<=n)(e:20000<=fu){m:Mem}(c:m.Ok)(f:m.lim<=m.nx){v:d9}{l:List ak}(h:U2 m (λ_=>True) l v)(hp:Z0 l<=2000000)(hb:tO l<=4000000000):
  ∃m',j6 KW fu (n+1) (.func 6) [v] m=some [⟨.bool (decide (l.length<=520)&&decide (wS 26 l 600<=600)),m'⟩]∧Ext m m':=by
 obtain⟨o,i,E1⟩:=aeE fu e 26 n (by omega) (by omega) m v l 600 1 c f h hp hb (by omega) (by omega) (by omega);have d:j6 KW fu n (.func 17) [v,iV 600,iV 1] m=_:=i;obtain⟨g,j,k⟩:=h;have a:=j.slice.len;rw [H7.len k] at a;by_cases h5:l.length<=520;refine⟨o,?_,E1⟩;have b:(l.length:Int)<=520:=by omega
 rw [enter (sf:=f6) rfl rfl];simp [f6,aX c f,w9,a,h5,b,d];refine⟨m,?_,Ext.refl c⟩;have b:¬ (l.length:Int)<=520:=by omega
 rw [enter (sf:=f6) rfl rfl];simp [f6,aX c f,w9,a,h5,b]
def Kz (s:By):Bool:=!s.isEmpty&&decide (s.length<=16)&&Cy (s.headD 0)&&s.all OC && !NM s
theorem aaC (b:UInt8)(hb:b.toNat<128)(n fu:Nat)(m:Mem):j6 KW fu (n+2) (.func 110) [.int .i32 (b.toNat:Nat)] m=some [⟨.bool (!OC b),m⟩]:=by
 have d:=λm=>Xn b n fu m;have e:=λm=>aes b n fu m;have f:¬ (127:Int)<(b.toNat:Int):=by omega
 have g:¬ 127<b.toNat:=by omega
 have c:nY .u8 ((b.toNat:Nat):Int)=((b.toNat:Nat):Int):=by show ((b.toNat:Nat):Int)%256=_;omega
 rw [enter (sf:=f110) rfl rfl];by_cases hl:Cy b=true;simp [f110,f,g,d,e,c,hl,OC];have a:Cy b=false:=by simpa using hl
 cases hd:Km b<;>simp [f110,f,g,d,e,c,a,hd,OC]
theorem aaD (r:Nat)(c:128<=r)(n fu:Nat)(m:Mem):j6 KW fu (n+2) (.func 110) [.int .i32 (r:Nat)] m=some [⟨.bool true,m⟩]:=by
 have a:(127:Int)<(r:Int):=by omega
 have b:127<r:=by omega
 rw [enter (sf:=f110) rfl rfl];simp [f110,a,b]
theorem aeF:nZ ff tt=some false:=rfl
theorem aeG:nZ tt tt=some true:=rfl
theorem XA {p:Nat}(s:By){n fu:Nat}:∀(j pos:Nat),pos<=s.length->s.length<=pos+j->∀(c t r d i:d9) (M:Mem) (N:Nat),M.Ok->M.lim<=p->p<M.nx->M.get p=some (.siter s pos)->j+1<=N->
  ((s.drop pos).all OC=true∧∃c' t' r' d' i' M',I4 (λenv m k=>mY (j6 KW fu (n+2)) fu none env m k) N (yw (.str s) (.ptr p 0) c t (.func (.func 110) [] []) r tt d i (iV 0)) M []=some [⟨.exit 0,(yw (.str s) (.ptr p 0) c' t' (.func (.func 110) [] []) r' tt d' i' (iV 0)),M',[],none⟩]∧Fr (p+1) p M M')∨
  ((s.drop pos).all OC=false∧∃(c' t' r' d':d9) (i':Nat) (M':Mem),I4 (λenv m k=>mY (j6 KW fu (n+2)) fu none env m k) N (yw (.str s) (.ptr p 0) c t (.func (.func 110) [] []) r tt d i (iV 0)) M []=some [⟨.ret,(yw (.str s) (.ptr p 0) c' t' (.func (.func 110) [] []) r' tt d' (iV (i':Int)) (iV (i':Int))),M',[],none⟩]∧Fr (p+1) p M M'):=by
 intro j;induction j with
 | zero=>
  intro pos C D c t r d i M N g v l y E;obtain⟨N,rfl⟩:∃k,N=k+1:=⟨N-1,by omega⟩;obtain rfl:pos=s.length:=by omega
  have f:=Iy y v;refine .inl ⟨by simp,.bool false,.tuple [.bool false],r,d,i,M,?_,Fr.refl g⟩;rw [p9];simp [mY,f]
 | succ j ih=>
  intro pos C D c t r d i M N g v l y E;obtain⟨N,rfl⟩:∃k,N=k+1:=⟨N-1,by omega⟩;by_cases he:pos=s.length;subst he;have f:=Iy y v;refine .inl ⟨by simp,.bool false,.tuple [.bool false],r,d,i,M,?_,Fr.refl g⟩;rw [p9];simp [mY,f];have h:pos<s.length:=by omega
  have f:=Xo y v h;have q:s.drop pos=s[pos]::s.drop (pos+1):=Y8 h;rcases Iw s pos h with⟨d1,d2⟩ | ⟨d1,d2,d3,d4,d5,d6⟩;rw [d2] at f;have b:(M.set p (.siter s (pos+1))).Ok:=Mem.Ok.set g l _;have z:(M.set p (.siter s (pos+1))).get p=some (.siter s (pos+1)):=J9 g _ l rfl;have a:Fr (p+1) p M (M.set p (.siter s (pos+1))):=⟨b,by simp,by simp,λi F A=>J6 g _ l A⟩;have o:=λm=>aaC s[pos] d1 n fu m;rw [q,alp];by_cases hb:OC s[pos]=true;rw [hb] at o;have B:=ih (pos+1) (by omega) (by omega) tt (.tuple [.bool true,iV (pos:Nat),.int .i32 ((s[pos]).toNat:Nat)]) (.int .i32 ((s[pos]).toNat:Nat)) ff (iV (pos:Nat)) _ N b (by simpa using v) (by simpa using l) z (by omega);have x:I4 (λenv m k=>mY (j6 KW fu (n+2)) fu none env m k) (N+1) (yw (.str s) (.ptr p 0) c t (.func (.func 110) [] []) r tt d i (iV 0)) M []=I4 (λenv m k=>mY (j6 KW fu (n+2)) fu none env m k) N (yw (.str s) (.ptr p 0) tt (.tuple [.bool true,iV (pos:Nat),.int .i32 ((s[pos]).toNat:Nat)]) (.func (.func 110) [] []) (.int .i32 ((s[pos]).toNat:Nat)) tt ff (iV (pos:Nat)) (iV 0)) (M.set p (.siter s (pos+1))) []:=by rw [p9];simp [mY,f,o,aeF,aeG]
  rw [x,hb,aea];rcases B with⟨q1,c',t',r',d',i',M',q2,q3⟩ | ⟨q1,c',t',r',d',i',M',q2,q3⟩;exact .inl ⟨q1,c',t',r',d',i',M',q2,a.trans q3⟩;exact .inr ⟨q1,c',t',r',d',i',M',q2,a.trans q3⟩;have e:OC s[pos]=false:=by simpa using hb
  rw [e] at o;refine .inr ⟨by simp [e],.bool true,.tuple [.bool true,iV (pos:Nat),.int .i32 ((s[pos]).toNat:Nat)],.int .i32 ((s[pos]).toNat:Nat),.bool true,pos,_,?_,a⟩;rw [p9];simp [mY,f,o,aeF,aeG];have b:(M.set p (.siter s (pos+(Utf8.decode ⟨s.toArray⟩ pos).2))).Ok:=Mem.Ok.set g l _;have a:Fr (p+1) p M (M.set p (.siter s (pos+(Utf8.decode ⟨s.toArray⟩ pos).2))):=⟨b,by simp,by simp,λi F A=>J6 g _ l A⟩;generalize (Utf8.decode ⟨s.toArray⟩ pos).2=w at *;generalize (Utf8.decode ⟨s.toArray⟩ pos).1=u at *;have o:=λm=>aaD u d2 n fu m;have e:OC s[pos]=false:=by unfold OC Cy Km;rw [ad3,agm,agm];exact⟨.inr (decide_eq_false (by omega)),.inr (decide_eq_false (by omega))⟩
  refine .inr ⟨by rw [q,alp,e];rfl,.bool true,.tuple [.bool true,iV (pos:Nat),.int .i32 (u:Nat)],.int .i32 (u:Nat),.bool true,pos,_,?_,a⟩;rw [p9];simp [mY,f,o,aeF,aeG]
theorem aaE {m:Mem}(f:m.Ok)(t:m.lim<=m.nx)(s:By)(hs:s.length<=16)(n fu:Nat)(r:20000<=fu):
  ∃(i:Int) (M':Mem),j6 KW fu (n+3) (.func 200) [.str s,(.func (.func 110) [] []),.bool true] m=some [⟨iV i,M'⟩]∧Ext m M'∧(s.all OC=true->i=-1)∧(s.all OC=false->0<=i):=by
 have q:(m.new (.siter s 0)).Ok:=Mem.Ok.new f _;have o:∀j c b d x,x c b=.str s->CQ x j c b d=some [⟨.ptr d.nx 0,d.new (.siter s 0)⟩]:=λj c b d x u=>by show pF (x c b) _=_;rw [u];rfl
 have l:∀M',Fr (m.nx+1) m.nx (m.new (.siter s 0)) M'->Ext m M':=λM' F=>by refine⟨F.ok,aP (by simp) F.nx,F.lim,λi v=>?_⟩;rw [F.old i (by omega) (by omega),PY f _ (by omega)]
 have g:=XA (p:=m.nx) s (n:=n) (fu:=fu) s.length 0 (by omega) (by omega) .undef .undef .undef .undef .undef (m.new (.siter s 0)) fu q (by simpa using t) (by simp) (JM f _ rfl) (by omega);rw [U9] at g;rcases g with⟨a,c',t',r',d',i',M',g,F⟩ | ⟨a,c',t',r',d',i',M',g,F⟩;have e:I4 (λb m k=>mY (j6 KW fu (n+2)) fu none b m k) fu (yw (.str s) (.ptr m.nx 0) .undef .undef (.func (.func 110) [] []) .undef tt .undef .undef (iV 0)) (m.new (.siter s 0)) []=_:=g;refine⟨-1,M',?_,l M' F,λ_=>rfl,λh=>by rw [a] at h;cases h⟩;rw [enter (sf:=f200) rfl rfl];simp [f200,o,e];have e:I4 (λb m k=>mY (j6 KW fu (n+2)) fu none b m k) fu (yw (.str s) (.ptr m.nx 0) .undef .undef (.func (.func 110) [] []) .undef tt .undef .undef (iV 0)) (m.new (.siter s 0)) []=_:=g;refine⟨(i':Int),M',?_,l M' F,(λh=>by rw [a] at h;cases h),λ_=>by omega⟩;rw [enter (sf:=f200) rfl rfl];simp [f200,o,e]
theorem KA {n fu:Nat}(r:20000<=fu){m:Mem}(o:m.Ok)(A:m.lim<=m.nx)(s:By):∃m',j6 KW fu (n+5) (.func 65) [.str s] m=some [⟨.bool (Kz s),m'⟩]∧Ext m m':=by
 match s with
 | []=>refine⟨m,?_,Ext.refl o⟩;rw [enter (sf:=f65) rfl rfl];simp [f65,Kz,D5]
 | b::t=>
  have k:∀(x y:OF) (p:List d9) (f:T d9),x p f=.str (b::t)->y p f=.int .i64 0->Bl x y p f=some (.int .u8 (b.toNat:Nat)):=λx y p f B v=>WM (s:=b::t) (l:=0) B v (by simp);have e:=λm=>Xn b (n+3) fu m;have c:¬ (b::t)=[]:=by simp
  have w:Kz (b::t)=(decide ((b::t).length<=16)&&Cy b&&(b::t).all OC && !NM (b::t)):=by simp [Kz]
  rw [w];generalize hS:b::t=S0 at *;by_cases h16:S0.length<=16;have a:¬ (16:Int)<(S0.length:Int):=by omega
  by_cases hb:Cy b=true;obtain⟨z,d,E1⟩:=aaz o S0 (n+1) fu (by omega);by_cases hr:NM S0=true;refine⟨z,?_,E1⟩;rw [enter (sf:=f65) rfl rfl];simp [f65,c,h16,a,k,e,hb,d,hr,D5];have j:NM S0=false:=by simpa using hr
  obtain⟨i,M',h,E2,C,D⟩:=aaE E1.ok (by rw [E1.lim];exact aP A E1.nx) S0 h16 n fu r;have g:j6 KW fu (n+4) (.func 109) [.str S0,(.func (.func 110) [] [])] z=some [⟨iV i,M'⟩]:=by rw [enter (sf:=f109) rfl rfl];simp [f109,h]
  refine⟨M',?_,E1.trans E2⟩;rw [enter (sf:=f65) rfl rfl];cases ha:S0.all OC;have u:¬ i<0:=by have:=D ha;omega
  simp [f65,c,h16,a,k,e,hb,d,j,g,u,D5];have u:i<0:=by have:=C ha;omega
  simp [f65,c,h16,a,k,e,hb,d,j,g,u,D5];have q:Cy b=false:=by simpa using hb
  refine⟨m,?_,Ext.refl o⟩;rw [enter (sf:=f65) rfl rfl];simp [f65,c,h16,a,k,e,q,D5];have a:(16:Int)<(S0.length:Int):=by omega
  refine⟨m,?_,Ext.refl o⟩;rw [enter (sf:=f65) rfl rfl];simp [f65,c,h16,a,k,e,D5]
def bT (k:Int):Int:=if k=3 then -1 else if k=1∨k=2 then 0 else if k=4∨k=5 then 1 else if 6<=k∧k<=18 then 2 else -2
mutual
def iK:Ex->Bool
 | .mk k n s a=>decide (bT k≠-2)&&(decide (bT k<0)||decide ((a.length:Int)=bT k)) &&
   (if k=1 then decide (0<=n)&&decide (n<=9007199254740992) else decide (n=0)) &&
   (if k=2∨k=3 then Kz s else decide (s=[]))&&V6 a
def V6:List Ex->Bool
 | []=>true
 | e::l=>iK e&&V6 l
end
theorem aeH (k:Int)(n fu:Nat)(m:Mem):j6 KW fu (n+1) (.func 64) [iV k] m=some [⟨iV (bT k),m⟩]:=by rw [enter (sf:=f64) rfl rfl];unfold bT;by_cases h1:k=1;subst h1;simp [f64];by_cases h2:k=2;subst h2;simp [f64];by_cases h3:k=3;subst h3;simp [f64];by_cases h4:k=4;subst h4;simp [f64];by_cases h5:k=5;subst h5;simp [f64];by_cases h6:6<=k;by_cases h7:k<=18;simp [f64,h1,h2,h3,h4,h5,h6,h7];simp [f64,h1,h2,h3,h4,h5,h6,h7];simp [f64,h1,h2,h3,h4,h5,h6]
def XB (n fu d:Nat):Prop:=∀(m:Mem) (row:List d9) (e:Ex),m.Ok->m.lim<=m.nx->au m (λ_=>True) e row->iJ e<=10000->gQ e<=d->
 ∃m',j6 KW fu n (.func 29) [.agg row] m=some [⟨.bool (iK e),m'⟩]∧Ext m m'
def CG (g:FuncId)(n fu d:Nat):Prop:=∀(m:Mem) (row:List d9) (e:Ex),m.Ok->m.lim<=m.nx->au m (λ_=>True) e row->iJ e<=10000->gQ e<=d->
 ∃m',j6 KW fu n (.func g) [.agg row] m=some [⟨.bool (!iK e),m'⟩]∧Ext m m'
theorem aeI {n fu d:Nat}(b:XB n fu d):CG 67 (n+1) fu d:=by
 intro m a e k j h o l;have p:=h.row;obtain⟨c,f⟩:=p;have E:=G7 k [o7 a];obtain⟨q,g,E1⟩:=b (ext m [o7 a]) a e E.ok (by rw [E.lim];exact aP j E.nx) (Gs E h) o l;refine⟨q,?_,E.trans E1⟩;have i:CY (some (o7 a)) 0 4=some (.agg a):=by rw [fP (by omega) (by omega),U9,W9 (by omega)]
 rw [enter (sf:=f67) rfl rfl];simp [f67,aX k j,w9,c,f,i,g]
theorem wm {n fu d:Nat}(b:XB n fu d):CG 136 (n+1) fu d:=by
 intro m a e k j h o l;have p:=h.row;obtain⟨c,f⟩:=p;have E:=G7 k [o7 a];obtain⟨q,g,E1⟩:=b (ext m [o7 a]) a e E.ok (by rw [E.lim];exact aP j E.nx) (Gs E h) o l;refine⟨q,?_,E.trans E1⟩;have i:CY (some (o7 a)) 0 4=some (.agg a):=by rw [fP (by omega) (by omega),U9,W9 (by omega)]
 rw [enter (sf:=f136) rfl rfl];simp [f136,aX k j,w9,c,f,i,g]
theorem XC {cl:FuncId}{n fu d:Nat}(G:CG cl (n+1) fu d){m:Mem}(U:m.Ok)(I:m.lim<=m.nx){v:d9}{rows:List (List d9)}(a:List Ex)(B:jf m (λ_=>True) 4 v rows)(z:D9 m (λ_=>True) a rows)(L:R5 a<=10000)(T:U5 a<=d):
  ∀(j i:Nat),i+j=a.length->∀(c k b:d9) (M:Mem) (N:Nat),Ext m M->j+1<=N->
  (V6 (a.drop i)=true∧∃c' k' b' M',I4 (λenv m k=>fH (j6 KW fu (n+1)) fu none env m k) N (pJ v (iV (i:Int)) (iV (a.length:Int)) c (.func (.func cl) [] []) k b (iV 0)) M []=some [⟨.exit 0,(pJ v (iV (a.length:Int)) (iV (a.length:Int)) c' (.func (.func cl) [] []) k' b' (iV 0)),M',[],none⟩]∧Ext m M')∨
  (V6 (a.drop i)=false∧∃(i' c' k' b':d9) (r':Nat) (M':Mem),I4 (λenv m k=>fH (j6 KW fu (n+1)) fu none env m k) N (pJ v (iV (i:Int)) (iV (a.length:Int)) c (.func (.func cl) [] []) k b (iV 0)) M []=some [⟨.ret,(pJ v i' (iV (a.length:Int)) c' (.func (.func cl) [] []) k' b' (iV (r':Int))),M',[],none⟩]∧Ext m M'):=by
 have u:=D9.len z;have J:=Q8 a;intro j;induction j with
 | zero=>
  intro i H c k b M N E D;obtain⟨N,rfl⟩:∃k,N=k+1:=⟨N-1,by omega⟩;obtain rfl:i=a.length:=by omega
  refine .inl ⟨by simp [V6],.bool false,k,b,M,?_,E⟩;rw [p9];simp [fH]
 | succ j ih=>
  intro i H c k b M N E D;obtain⟨N,rfl⟩:∃k,N=k+1:=⟨N-1,by omega⟩;have e:i<a.length:=by omega
  have f:i<rows.length:=by omega
  have g:(i:Int)<(a.length:Int):=by omega
  have C:=E.ok;have s:M.lim<=M.nx:=by rw [E.lim];exact aP I E.nx
  have t:a.drop i=a[i]::a.drop (i+1):=Y8 e;rw [t,V6];obtain⟨P,V,y,Q,R,A,S⟩:=(B.slice.ext E).at f;have h:=D9.get z i e f;have O:=h.row;have l:=A 0 4 (by omega) (by omega);rw [U9,W9 (by omega),Y6] at l;have K:=jh a i e;have F:=mF a i e;have o:au M (λ_=>True) a[i] rows[i]:=Gs E h;generalize hX:a[i]=X at *;generalize hR:rows[i]=R1 at *;obtain⟨x,r,E2⟩:=G M R1 X C s o (by omega) (by omega);by_cases hf:iK X=true;rw [hf] at r;have w:=ih (i+1) (by omega) tt (iV (i:Int)) ff x N (E.trans E2) (by omega);have q:I4 (λenv m k=>fH (j6 KW fu (n+1)) fu none env m k) (N+1) (pJ v (iV (i:Int)) (iV (a.length:Int)) c (.func (.func cl) [] []) k b (iV 0)) M []=I4 (λenv m k=>fH (j6 KW fu (n+1)) fu none env m k) N (pJ v (.int .i64 ((i+1:Nat):Int)) (iV (a.length:Int)) tt (.func (.func cl) [] []) (iV (i:Int)) ff (iV 0)) x []:=by rw [p9];simp [fH,e,g,y,l,r,P9 (i:=i) (by omega)]
  rw [q,hf,aea];exact w;have p:iK X=false:=by simpa using hf
  rw [p] at r;refine .inr ⟨by rw [p];rfl,iV (i:Int),.bool true,iV (i:Int),.bool true,i,x,?_,E.trans E2⟩;rw [p9];simp [fH,e,g,y,l,r]
theorem Fv {cl:FuncId}{n fu d:Nat}(u:20000<=fu)(w:CG cl (n+1) fu d){m:Mem}(p:m.Ok)(x:m.lim<=m.nx){v:d9}(a:List Ex)(h:jg m (λ_=>True) a v)(l:R5 a<=10000)(t:U5 a<=d):
  ∃m',j6 KW fu (n+3) (.func 66) [v,(.func (.func cl) [] [])] m=some [⟨.bool (!V6 a),m'⟩]∧Ext m m':=by
 obtain⟨s,j,o⟩:=h;have f:=D9.len o;have c:=j.slice.len;rw [f] at c;have y:=Q8 a;have r:=KV j.slice;rcases XC (n:=n) (fu:=fu) w p x a j o l t a.length 0 (by omega) .undef .undef .undef m fu (Ext.refl p) (by omega) with⟨ha,c',k',b',M',g,q⟩ | ⟨ha,i',c',k',b',r',M',g,q⟩;have i:I4 (λe m k=>fH (j6 KW fu (n+1)) fu none e m k) fu (pJ v (iV 0) (iV (a.length:Int)) .undef (.func (.func cl) [] []) .undef .undef (iV 0)) m []=_:=g;rw [U9] at ha;have b:j6 KW fu (n+2) (.func 111) [v,(.func (.func cl) [] [])] m=some [⟨iV (-1),M'⟩]:=by rw [enter (sf:=f111) rfl rfl];simp [f111,c,i,r]
 refine⟨M',?_,q⟩;rw [enter (sf:=f66) rfl rfl];simp [f66,b,ha];have i:I4 (λe m k=>fH (j6 KW fu (n+1)) fu none e m k) fu (pJ v (iV 0) (iV (a.length:Int)) .undef (.func (.func cl) [] []) .undef .undef (iV 0)) m []=_:=g;rw [U9] at ha;have b:j6 KW fu (n+2) (.func 111) [v,(.func (.func cl) [] [])] m=some [⟨iV (r':Int),M'⟩]:=by rw [enter (sf:=f111) rfl rfl];simp [f111,c,i,r]
 have z:(0:Int)<=(r':Int):=by omega
 refine⟨M',?_,q⟩;rw [enter (sf:=f66) rfl rfl];simp [f66,b,ha,z]
theorem KC {n fu d:Nat}(c:20000<=fu)(b:XB n fu d){m:Mem}(i:m.Ok)(g:m.lim<=m.nx){v:d9}(a:List Ex)(h:jg m (λ_=>True) a v)(e:R5 a<=10000)(f:U5 a<=d):
  ∃m',j6 KW fu (n+3) (.func 66) [v,.func (.func 67) [] []] m=some [⟨.bool (!V6 a),m'⟩]∧Ext m m':=Fv c (aeI b) i g a h e f
theorem RI (fu:Nat)(t:20000<=fu):∀d n:Nat,4*d+2<=n->XB n fu d:=by
 intro d;induction d with
 | zero=>intro n hn m Q e l j h W P;obtain⟨k0,n0,u,a⟩:=e;rw [gQ] at P;omega
 | succ d ih=>
  intro n hn m Q e l j h W P;obtain⟨n,rfl⟩:∃k,n=k+6:=⟨n-6,by omega⟩;obtain⟨k0,n0,u,a⟩:=e;obtain⟨v,s,rfl,F,V⟩:=h;have r:=F.slice.w9;have H:=KV F.slice;have p:=F.slice.cells;have C:=D9.len V;have c:=F.slice.len;rw [C] at c;rw [iJ] at W;rw [gQ] at P;have E:=G7 l [o7 (r4 k0 n0 u v)];have a0:=Q8 a;have b:=λm=>aeH k0 (n+4) fu m;by_cases c1:bT k0=-2;refine⟨_,?_,E⟩;rw [enter (sf:=f29) rfl rfl];simp [f29,aX l j,w9,r,p,b,c1,iK];by_cases D:0<=bT k0∧¬ (a.length:Int)=bT k0;obtain⟨D,A⟩:=D;have I:¬ bT k0<0:=by omega
  refine⟨_,?_,E⟩;rw [enter (sf:=f29) rfl rfl];simp [f29,aX l j,w9,r,p,b,c1,D,I,A,c,iK];have J:¬ (0<=bT k0∧¬ (a.length:Int)=bT k0):=D;have f:bT k0<0∨(a.length:Int)=bT k0:=by omega
  by_cases A:(k0=1∧(n0<0∨9007199254740992<n0))∨(¬ k0=1∧¬ n0=0);refine⟨_,?_,E⟩;rw [enter (sf:=f29) rfl rfl];rcases A with⟨A,c4⟩ | ⟨A,c4⟩;subst A;have ha:a.length=0:=by simpa [bT] using f
  have O:a=[]:=afv ha;subst O;have w:bT 1=0:=rfl;by_cases c5:n0<0;have K:¬ 0<=n0:=by omega
  simp [f29,aX l j,w9,r,p,b,w,c,iK,c5,K];have K:0<=n0:=by omega
  have Y:9007199254740992<n0:=by omega
  have Z:¬ n0<=9007199254740992:=by omega
  simp [f29,aX l j,w9,r,p,b,w,c,iK,c5,K,Y,Z];rcases f with h | h;have M:¬ 0<=bT k0:=by omega
  simp [f29,aX l j,w9,r,p,b,c1,h,M,c,iK,A,c4];have M:0<=bT k0:=by omega
  have N:¬ bT k0<0:=by omega
  simp [f29,aX l j,w9,r,p,b,c1,← h,c,iK,A,c4];have y:=jf.mono (m':=ext m [o7 (r4 k0 n0 u v)]) F E.nx (λi hi _=>E.old i hi) (S':=λ_=>True) λ_ _ h=>h;have z:=Gt E V;clear D J;by_cases hk2:k0=2;subst hk2;have w:bT 2=0:=rfl;have x:n0=0:=by omega
  subst x;obtain⟨G,o,E1⟩:=KA (n:=n) t E.ok (by rw [E.lim];exact aP j E.nx) u;have f:a.length=0:=by simpa [bT] using f
  by_cases hb:Kz u=true
  skip
  obtain⟨M',g,q⟩:=KC (n:=n+2) (fu:=fu) t (ih (n+2) (by omega)) E1.ok (by rw [E1.lim,E.lim];exact aP j (aP E.nx E1.nx)) a (jg.ext ⟨s,y,z⟩ E1) (by omega) (by omega);have L:G.get m.nx=some (o7 (r4 2 0 u v)):=(E1.old _ (by simp)).trans (by rw [A8 l];rfl);refine⟨M',?_,E.trans (E1.trans q)⟩;rw [enter (sf:=f29) rfl rfl];simp [f29,aX l j,w9,r,p,b,w,f,c,iK,o,hb,g,H,L];have B:Kz u=false:=by simpa using hb
  refine⟨G,?_,E.trans E1⟩;rw [enter (sf:=f29) rfl rfl];simp [f29,aX l j,w9,r,p,b,w,f,c,iK,o,B];by_cases hk3:k0=3;subst hk3;have w:bT 3=-1:=rfl;have x:n0=0:=by omega
  subst x;obtain⟨G,o,E1⟩:=KA (n:=n) t E.ok (by rw [E.lim];exact aP j E.nx) u;clear f;have f:True:=trivial
  by_cases hb:Kz u=true
  skip
  obtain⟨M',g,q⟩:=KC (n:=n+2) (fu:=fu) t (ih (n+2) (by omega)) E1.ok (by rw [E1.lim,E.lim];exact aP j (aP E.nx E1.nx)) a (jg.ext ⟨s,y,z⟩ E1) (by omega) (by omega);have L:G.get m.nx=some (o7 (r4 3 0 u v)):=(E1.old _ (by simp)).trans (by rw [A8 l];rfl);refine⟨M',?_,E.trans (E1.trans q)⟩;rw [enter (sf:=f29) rfl rfl];simp [f29,aX l j,w9,r,p,b,w,f,c,iK,o,hb,g,H,L];have B:Kz u=false:=by simpa using hb
  refine⟨G,?_,E.trans E1⟩;rw [enter (sf:=f29) rfl rfl];simp [f29,aX l j,w9,r,p,b,w,f,c,iK,o,B];by_cases hk1:k0=1;subst hk1;have w:bT 1=0:=rfl;have f:a.length=0:=by simpa [bT] using f
  have R:0<=n0:=by omega
  have S:¬ n0<0:=by omega
  have T:n0<=9007199254740992:=by omega
  have U:¬ 9007199254740992<n0:=by omega
  by_cases hs:u=[];subst hs;obtain⟨M',g,q⟩:=KC (n:=n+2) (fu:=fu) t (ih (n+2) (by omega)) E.ok (by rw [E.lim];exact aP j E.nx) a ⟨s,y,z⟩ (by omega) (by omega);refine⟨M',?_,E.trans q⟩;rw [enter (sf:=f29) rfl rfl];simp [f29,aX l j,w9,r,p,b,c,iK,D5,w,f,R,S,T,U,g,H];refine⟨_,?_,E⟩;rw [enter (sf:=f29) rfl rfl];simp [f29,aX l j,w9,r,p,b,c,iK,D5,w,f,R,S,T,U,hs];have x:n0=0:=by omega
  subst x;have X:0<bT k0:=by unfold bT at c1 ⊢;rw [if_neg hk3,if_neg (by omega)] at c1 ⊢;by_cases z1:k0=4∨k0=5;rw [if_pos z1];omega;rw [if_neg z1] at c1 ⊢;by_cases z2:6<=k0∧k0<=18;rw [if_pos z2];omega;rw [if_neg z2] at c1;exact absurd rfl c1
  have h:(a.length:Int)=bT k0:=by omega
  have M:0<=bT k0:=by omega
  have N:¬ bT k0<0:=by omega
  by_cases hs:u=[];subst hs;obtain⟨M',g,q⟩:=KC (n:=n+2) (fu:=fu) t (ih (n+2) (by omega)) E.ok (by rw [E.lim];exact aP j E.nx) a ⟨s,y,z⟩ (by omega) (by omega);refine⟨M',?_,E.trans q⟩;rw [enter (sf:=f29) rfl rfl];simp [f29,aX l j,w9,r,p,b,c,iK,D5,c1,← h,hk1,hk2,hk3,g,H];refine⟨_,?_,E⟩;rw [enter (sf:=f29) rfl rfl];simp [f29,aX l j,w9,r,p,b,c,iK,D5,c1,← h,hk1,hk2,hk3,hs]
def sK:Ex->Int
 | .mk k _ _ _=>k
mutual
def Bf:ak->Bool
 | .mk k s e t f=>decide (1<=k)&&decide (k<=6)&&(if k=1∨k=2 then Kz s else decide (s=[]))&&decide (e.length≠0)&&(decide (e.length<=1)||decide (k=5)) &&
   (decide (t.length=0)||decide (k=3)||decide (k=4))&&(decide (f.length=0)||decide (k=3))&&(decide (k≠6)||decide ((e.map sK).head?=some 3))&&V6 e&&eO t&&eO f
def eO:List ak->Bool
 | []=>true
 | s::l=>Bf s&&eO l
end
end
end Go.Proofs.YtfddpcckppibjaaGreatDoor.TT
