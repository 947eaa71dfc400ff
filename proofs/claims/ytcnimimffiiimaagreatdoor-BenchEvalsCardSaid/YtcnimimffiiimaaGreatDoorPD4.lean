/- The check of the program and of the specification, walked; conditions: the memory holds what the arguments say. -/
import Derived.Test.YtcnimimffiiimaaGreatDoorPD3
import Derived.KernelRfl
set_option linter.all false
namespace Go.Proofs.YtcnimimffiiimaaGreatDoor.TT
open Go Go.AM
set_option maxRecDepth 100000
set_option maxHeartbeats 8000000
def assoc:List (List UInt8×d9)->List UInt8->Option d9
 | [],_=>none
 | p::l,s=>if s=p.1 then some p.2 else assoc l s
noncomputable def bC (L:List (List UInt8×d9)):List (d9×d9):=L.map λp=>(.str p.1,p.2)
theorem LX (z:d9)(s:List UInt8):∀(L:List (List UInt8×d9)) (i:Nat),ob (findKey eqStr (.str s) (bC L) i) (λr=>found true z r)=some (match assoc L s with | some v=>.tuple [v,.bool true] | none=>.tuple [z,.bool false])
 | [],i=>rfl
 | p::L,i=>by show ob (ob (eqStr (.str s) (.str p.1)) λb=>bi b (some (some (i,p.2))) (findKey eqStr (.str s) (bC L) (i+1))) (λr=>found true z r)=_;rw [qb,K5,assoc];by_cases h:s=p.1;rw [if_pos h,decide_eq_true h];rfl;rw [if_neg h,decide_eq_false h,O6,LX z s L (i+1)]
theorem VH (z:d9)(s:List UInt8)(L:List (List UInt8×d9)){b:Option N7}(hb:b=some (.map (bC L))∨b=some (.mapU (bC L))):
  PX b eqStr 1 z true (.str s)=some (match assoc L s with | some v=>.tuple [v,.bool true] | none=>.tuple [z,.bool false]):=by
 have a:ob (O5 eqStr 1 (.str s) (bC L)) (λr=>found true z r)=some (match assoc L s with | some v=>.tuple [v,.bool true] | none=>.tuple [z,.bool false]):=by
  cases L with
  | nil=>show ob (ob (eqStr (.str s) (.str s)) λ_=>some none) (λr=>found true z r)=_;rw [qb];rfl
  | cons p L=>exact LX z s (p::L) 0
 rcases hb with rfl | rfl<;>exact a
def Zf (L:List (List UInt8×d9)):Prop:=∀s,(arity s=-1∧assoc L s=none)∨∃f,G9 f=true∧0<=arity s∧assoc L s=some (.agg [iV (arity s),f])
def uQ (M:Mem):List (Nat×Nat×List (List UInt8))->d9->Prop
 | [],v=>v=.nilPtr
 | x::r,v=>v=.ptr x.1 0∧x.2.1<x.1∧x.1<M.nx∧(∀y∈r,y.1<x.2.1)∧∃par,M.get x.1=some (r9 [par,.map x.2.1])∧M.get x.2.1=some (.map (bC (x.2.2.map λn=>(n,.int .i64 0))))∧uQ M r par
theorem uQ.lt {M:Mem}:∀{ss:List (Nat×Nat×List (List UInt8))} {v:d9},uQ M ss v->∀y∈ss,y.2.1<y.1∧y.1<M.nx
 | x::r,v,⟨h1,h2,h3,h4,par,h5,h6,h7⟩,y,hy=>by rcases X4.1 hy with rfl | hy;exact⟨h2,h3⟩;exact uQ.lt h7 y hy
theorem uQ.keep {M M':Mem}(hn:M.nx<=M'.nx):∀{ss:List (Nat×Nat×List (List UInt8))} {v:d9},(∀y∈ss,M'.get y.1=M.get y.1∧M'.get y.2.1=M.get y.2.1)->uQ M ss v->uQ M' ss v
 | [],v,_,h=>h
 | x::r,v,hk,⟨h1,h2,h3,h4,par,h5,h6,h7⟩=>⟨h1,h2,q9 h3 hn,h4,par,(hk x (by simp)).1.trans h5,(hk x (by simp)).2.trans h6,uQ.keep hn (λy hy=>hk y (by simp [hy])) h7⟩
theorem uQ.ext {M a:Mem}{b:List (Nat×Nat×List (List UInt8))}{v:d9}(h:uQ M b v)(e:Ext M a):uQ a b v:=
 h.keep e.nx λy c=>by have:=h.lt y c;exact⟨e.old _ this.2,e.old _ (by omega)⟩
theorem uQ.cells {M:Mem}{a:List (Nat×Nat×List (List UInt8))}{v:d9}(h:uQ M a v):v.cells=[v]∧G9 v=true:=by
 cases a with
 | nil=>obtain rfl:=h;exact⟨rfl,rfl⟩
 | cons x r=>obtain⟨rfl,_⟩:=h;exact⟨rfl,rfl⟩
def acP (M:Mem)(pc:Nat):Prop:=∃cq L,pc<M.nx∧cq<M.nx∧M.get pc=some (r9 [.map cq])∧M.get cq=some (.mapU (bC L))∧Zf L
theorem acP.ext {M a:Mem}{pc:Nat}(h:acP M pc)(e:Ext M a):acP a pc:=by obtain⟨d,L,b,c,f,g,i⟩:=h;exact⟨d,L,q9 b e.nx,q9 c e.nx,(e.old _ b).trans f,(e.old _ c).trans g,i⟩
theorem oW.lg {m m':Mem}{rs:Nat}{v:d9}{l:List (List d9)}(h:oW m (λ_=>True) rs v l)(hn:m.nx<=m'.nx)(hc:∀id rs n rows,id<m.nx->m.get id=some (.cells rs n rows)->m'.get id=m.get id):oW m' (λ_=>True) rs v l:=by rcases h with h | ⟨id,o,h0,h1,h2,h3⟩;exact .inl h;refine .inr ⟨id,o,trivial,h1,q9 h2 hn,?_⟩;rcases h3 with h3 | ⟨n,rows,h4,h5⟩;exact .inl h3;exact .inr ⟨n,rows,(hc id _ _ _ h2 h4).trans h4,h5⟩
section
variable {m m':Mem}(hn:m.nx<=m'.nx)(hc:∀id rs n rows,id<m.nx->m.get id=some (.cells rs n rows)->m'.get id=m.get id)
include hn hc
mutual
theorem bU.lg:∀(e:Ex) (row:List d9),bU m (λ_=>True) e row->bU m' (λ_=>True) e row
 | .mk k n s a,row,⟨v,rows,h1,h2,h3⟩=>⟨v,rows,h1,oW.lg h2 hn hc,G8.lg a rows h3⟩
theorem G8.lg:∀(l:List Ex) (rows:List (List d9)),G8 m (λ_=>True) l rows->G8 m' (λ_=>True) l rows
 | [],_,h=>h
 | e::es,_,⟨r,rs,h1,h2,h3⟩=>⟨r,rs,h1,bU.lg e r h2,G8.lg es rs h3⟩
end
mutual
theorem Bg.lg:∀(e:kG) (row:List d9),Bg m (λ_=>True) e row->Bg m' (λ_=>True) e row
 | .mk k s e t f,row,⟨ve,vt,vf,re,rt,rf,h1,h2,h3,h4,h5,h6,h7⟩=>⟨ve,vt,vf,re,rt,rf,h1,oW.lg h2 hn hc,G8.lg hn hc e re h3,oW.lg h4 hn hc,bA.lg t rt h5,oW.lg h6 hn hc,bA.lg f rf h7⟩
theorem bA.lg:∀(l:List kG) (rows:List (List d9)),bA m (λ_=>True) l rows->bA m' (λ_=>True) l rows
 | [],_,h=>h
 | e::es,_,⟨r,rs,h1,h2,h3⟩=>⟨r,rs,h1,Bg.lg e r h2,bA.lg es rs h3⟩
end
end
theorem uQ.tail {M a:Mem}{x:Nat×Nat×List (List UInt8)}{r:List (Nat×Nat×List (List UInt8))}{v:d9}(h:uQ M (x::r) v)(e:nL x.2.1 M a){ns:List (List UInt8)}(l:a.get x.2.1=some (.map (bC (ns.map λn=>(n,.int .i64 0))))):uQ a ((x.1,x.2.1,ns)::r) v:=by obtain⟨i,j,c,d,b,k,m,f⟩:=h;refine⟨i,j,q9 c e.nx,d,b,(e.old _ c (by omega)).trans k,l,f.keep e.nx λy g=>?_⟩;have:=d y g;have:=f.lt y g;exact⟨e.old _ (by omega) (by omega),e.old _ (by omega) (by omega)⟩
theorem b0 (ls:List d9)(env:T d9)(a:Nat):R6 1 0 [.str []] [] ls env a=some (.slice a 0 0 0,some (.cells 1 0 (T.ofList []))):=rfl
end Go.Proofs.YtcnimimffiiimaaGreatDoor.TT
