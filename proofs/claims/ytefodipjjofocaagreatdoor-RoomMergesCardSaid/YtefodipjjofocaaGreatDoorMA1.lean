/- A part of an evaluator for the model, proved sound: what it answers holds of the model; it speaks of every program, no condition. -/
import GoSem.Core.Code
import GoSem.Core.Program
import GoSem.Core.View
import GoSem.Core.World
import GoSem.Core.Region
import GoSem.Core.Layout
import GoSem.Op.Equal
import Derived.CallsIn
import Derived.Laws.Sem
import GoSem.Dispatch
import Derived.Laws.Strings
set_option linter.unusedSimpArgs false
set_option linter.unusedVariables false
namespace Go.AM
open Go
inductive T (α:Type) where
 | e:T α
 | nd:T α→α→T α→T α
inductive o8 where
 | undef
 | bool (b:Bool)
 | int (k:IntKind) (n:Int)
 | str (s:List UInt8)
 | nilPtr
 | ptr (id off:Nat)
 | nilSlice
 | slice (id off len cap:Nat)
 | sliceU (id off len es:Nat)
 | nilMap
 | map (id:Nat)
 | nilFunc
 | func (fn:Fn) (first captured:List o8)
 | nilIface
 | iface (t:TypeId) (v:o8)
 | agg (l:List o8)
 | tuple (l:List o8)
 | pan (v:o8)
 deriving Inhabited
def o8.cells:o8→List o8
 | .agg l=>l
 | v=>[v]
inductive Opd where
 | loc (k:Nat)
 | slot (j:Nat)
 | con (v:o8)
 deriving Inhabited
inductive PK where
 | i | b | s
 deriving Inhabited,DecidableEq
inductive EqK where
 | prim (k:PK) | flat (ks:List PK) | ptr | slice | map | func | iface
 deriving Inhabited,DecidableEq
inductive POp where
 | mov (x:Opd)
 | pick (c a b:Opd)
 | build (zero:List o8) (parts:List (Nat×Nat×Opd))
 | nilCheck (x:Opd)
 | ib (op:BinOp) (x y:Opd)
 | eq (neg:Bool) (k:EqK) (x y:Opd)
 | not (x:Opd)
 | neg (x:Opd)
 | conv (k:IntKind) (x:Opd)
 | mkIface (t:TypeId) (x:Opd)
 | mkFunc (fn:Fn) (first captured:List Opd)
 | slStr (x:Opd) (lo hi:Option Opd)
 | slArr (es n:Nat) (x:Opd) (lo hi:Option Opd)
 | fAddr (off:Nat) (x:Opd)
 | fld (off:Nat) (size:Option Nat) (x:Opd)
 | iAddr (es:Nat) (x i:Opd)
 | iAddrArr (es n:Nat) (x i:Opd)
 | iArr (es n:Nat) (size:Option Nat) (x i:Opd)
 | iStr (x i:Opd)
 | ext (x:Opd) (i:Nat)
 | len (x:Opd)
 | lenS (x:Opd)
 | cap (x:Opd)
 | mm (max:Bool) (x:Opd) (xs:List Opd)
 | assert (t:TypeId) (zero:o8) (ok:Bool) (x:Opd)
 deriving Inhabited
inductive ROp where
 | load (size:Option Nat) (a:Opd)
 | look (kk:EqK) (zero:o8) (ok:Bool) (m k:Opd)
 | lenM (x:Opd)
 | bytesStr (x:Opd)
 | entry (it:Opd)
 deriving Inhabited
inductive LOp where
 | alloc (zero:List o8)
 | box (x:Opd)
 | buildSlice (es len:Nat) (zero:List o8) (parts:List (Nat×Nat×Opd))
 | mkMap
 | mkSlice (es bytes:Nat) (zero:List o8) (len cap:Opd)
 | strBytes (x:Opd)
 | sl (es:Nat) (x:Opd) (lo hi:Option Opd)
 deriving Inhabited
inductive EOp where
 | store (size:Nat) (a x:Opd)
 | mapSet (kk:EqK) (m k x:Opd)
 | range (x:Opd)
 | next (it:Opd)
 | app (es:Nat) (zeros:Bool) (zero:List o8) (bytes:Nat) (s x:Opd)
 | copy (es:Nat) (d s:Opd)
 | clear (zero:List o8) (x:Opd)
 | call (f:FuncId) (args:List Opd)
 | callv (f:Opd) (args:List Opd)
 | defer (f:Opd) (args:List Opd)
 | panic (x:Opd)
 | recover
 | bad
 deriving Inhabited
inductive AOp where
 | p (o:POp)
 | r (o:ROp)
 | a (o:LOp)
 | e (o:EOp)
 deriving Inhabited
structure Inst where
 op:AOp
 dst:Option Nat
 guard:Option (Opd×Bool)
 deriving Inhabited
inductive aV where
 | skip
 | reg (ops:List Inst)
 | dreg (ids:Nat) (ops:List (Nat×Inst))
 | seq (a b:aV)
 | cond (c:Opd) (thn els:aV)
 | block (id:Nat) (body:aV)
 | loop (body:aV)
 | exit (id:Nat)
 | ret
 | rangeFunc (f:Opd) (params:List (Option Nat)) (assign body:aV)
 deriving Inhabited
inductive X5 where
 | normal
 | exit (id:Nat)
 | ret
 deriving Inhabited,DecidableEq
inductive Mk where
 | c (id:Nat)
 | d (f:o8) (args:List o8)
 deriving Inhabited
inductive uI where
 | tmp (j:Nat)
 | cell (j:Nat) (size:Option Nat)
 deriving Inhabited
structure AFn where
 nargs:Nat
 args:List (Option Nat)
 nslots:Nat
 results:List uI
 body:aV
 deriving Inhabited
def jo:POp→List Opd
 | .mov x=>[x]
 | .pick a b c=>[a,b,c]
 | .build _ ps=>ps.map (·.2.2)
 | .nilCheck x=>[x]
 | .ib _ x y=>[x,y]
 | .eq _ _ x y=>[x,y]
 | .not x=>[x]
 | .neg x=>[x]
 | .conv _ x=>[x]
 | .mkIface _ x=>[x]
 | .mkFunc _ a b=>a++b
 | .slStr x a b=>x::(a.toList++b.toList)
 | .slArr _ _ x a b=>x::(a.toList++b.toList)
 | .fAddr _ x=>[x]
 | .fld _ _ x=>[x]
 | .iAddr _ x i=>[x,i]
 | .iAddrArr _ _ x i=>[x,i]
 | .iArr _ _ _ x i=>[x,i]
 | .iStr x i=>[x,i]
 | .ext x _=>[x]
 | .len x=>[x]
 | .lenS x=>[x]
 | .cap x=>[x]
 | .mm _ x xs=>x::xs
 | .assert _ _ _ x=>[x]
def IG:ROp→List Opd
 | .load _ a=>[a]
 | .look _ _ _ m x=>[m,x]
 | .lenM x=>[x]
 | .bytesStr x=>[x]
 | .entry x=>[x]
def opsL:LOp→List Opd
 | .alloc _=>[]
 | .box x=>[x]
 | .buildSlice _ _ _ ps=>ps.map (·.2.2)
 | .mkMap=>[]
 | .mkSlice _ _ _ l c=>[l,c]
 | .strBytes x=>[x]
 | .sl _ x a b=>x::(a.toList++b.toList)
def opsE:EOp→List Opd
 | .store _ a x=>[a,x]
 | .mapSet _ a b c=>[a,b,c]
 | .range x=>[x]
 | .next x=>[x]
 | .app _ _ _ _ s x=>[s,x]
 | .copy _ d s=>[d,s]
 | .clear _ x=>[x]
 | .call _ a=>a
 | .callv g a=>g::a
 | .defer g a=>g::a
 | .panic x=>[x]
 | .recover=>[]
 | .bad=>[]
def TV:AOp→List Opd
 | .p o=>jo o
 | .r o=>IG o
 | .a o=>opsL o
 | .e o=>opsE o
end Go.AM
namespace Go.AM
open Go
variable {α β γ:Type}
noncomputable def ob (o:Option α)(k:α→Option β):Option β:=Option.rec none (fun a=>k a) o
noncomputable def bi (b:Bool)(x y:α):α:=Bool.rec y x b
noncomputable def T.get (t:T α):Nat→Option α:=
 T.rec (fun _=>none) (fun _ x _ ihl ihr i=>Nat.rec (some x) (fun j _=>Nat.rec (ihl (Nat.div j 2)) (fun _ _=>ihr (Nat.div j 2)) (Nat.mod j 2)) i) t
noncomputable def T.put (t:T α):Nat→α→T α:=
 T.rec (fun _ x=>.nd .e x .e) (fun l y r ihl ihr i x=>Nat.rec (.nd l x r) (fun j _=>Nat.rec (.nd (ihl (Nat.div j 2) x) y r) (fun _ _=>.nd l y (ihr (Nat.div j 2) x)) (Nat.mod j 2)) i) t
noncomputable def T.iw (l:List α):T α→Nat→T α:=
 List.rec (fun t _=>t) (fun x _ ih t i=>ih (t.put i x) (Nat.succ i)) l
noncomputable def T.ofList (l:List α):T α:=T.iw l .e 0
noncomputable def T.slice (t:T α)(n:Nat):Nat→Option (List α):=
 Nat.rec (fun _=>some []) (fun _ ih i=>ob (t.get i) fun x=>ob (ih (Nat.succ i)) fun xs=>some (x::xs)) n
noncomputable def T.rep (x:α)(n:Nat):T α→Nat→T α:=
 Nat.rec (fun t _=>t) (fun _ ih t i=>ih (t.put i x) (Nat.succ i)) n
noncomputable def takeN (n:Nat):List α→Option (List α):=
 Nat.rec (fun _=>some []) (fun _ ih l=>List.rec none (fun x xs _=>ob (ih xs) fun r=>some (x::r)) l) n
noncomputable def jk (n:Nat):List α→List α:=
 Nat.rec (fun l=>l) (fun _ ih l=>List.rec [] (fun _ xs _=>ih xs) l) n
noncomputable def vX (n:Nat):List α→Option α:=
 Nat.rec (fun l=>List.rec none (fun x _ _=>some x) l) (fun _ ih l=>List.rec none (fun _ xs _=>ih xs) l) n
noncomputable def nth (n:Nat):List o8→o8:=
 Nat.rec (fun l=>List.rec o8.undef (fun x _ _=>x) l) (fun _ ih l=>List.rec o8.undef (fun _ xs _=>ih xs) l) n
noncomputable def gJ (l m:List α):List α:=List.rec m (fun x _ ih=>x::ih) l
noncomputable def len' (l:List α):Nat:=List.rec 0 (fun _ _ ih=>Nat.succ ih) l
noncomputable def jq (n:Nat)(vs:List α):List α→List α:=
 Nat.rec (fun l=>gJ vs (jk (len' vs) l)) (fun _ ih l=>List.rec [] (fun x xs _=>x::ih xs) l) n
noncomputable def nD (v:o8)(k:Nat→Nat→Option β):Option β:=match v with
 | .ptr i o=>k i o
 | _=>none
noncomputable def wh (v:o8)(k:IntKind→Int→Option β):Option β:=match v with
 | .int a b=>k a b
 | _=>none
noncomputable def lT (v:o8)(k:Bool→Option β):Option β:=match v with
 | .bool b=>k b
 | _=>none
noncomputable def Br (v:o8)(k:List UInt8→Option β):Option β:=match v with
 | .str s=>k s
 | _=>none
noncomputable def wm (v:o8)(k:List o8→Option β):Option β:=match v with
 | .agg l=>k l
 | _=>none
noncomputable def KG (v:o8)(k:List o8→Option β):Option β:=match v with
 | .tuple l=>k l
 | _=>none
noncomputable def wo (v:o8)(nl:Option β)(k:Nat→Option β):Option β:=match v with
 | .nilMap=>nl
 | .map i=>k i
 | _=>none
noncomputable def vSl (v:o8)(nl:Option β)(k:Nat→Nat→Nat→Nat→Option β)(u:Nat→Nat→Nat→Nat→Option β):Option β:=match v with
 | .nilSlice=>nl
 | .slice a b c d=>k a b c d
 | .sliceU a b c d=>u a b c d
 | _=>none
noncomputable def MJ (v:o8)(k:Fn→List o8→List o8→Option β):Option β:=match v with
 | .func f a b=>k f a b
 | _=>none
noncomputable def KH (n:Int)(k:Nat→Option β):Option β:=match n with
 | .ofNat m=>k m
 | .negSucc _=>none
noncomputable def kT (v:o8)(k:Nat→Option β):Option β:=wh v fun _ n=>KH n k
inductive Blk where
 | void
 | dead
 | cells (rs n:Nat) (rows:T (List o8))
 | map (es:List (o8×o8))
 | iter (m:Option Nat) (since:Nat) (seen:List Nat)
 | tail (parent:Nat)
 | loop (st:LoopState) (pend:Option X5) (env:T o8) (params:List (Option Nat)) (assign body:aV)
 | deferred
 deriving Inhabited
structure Mem where
 t:T Blk
 next:Nat
 lim:Nat
noncomputable def Mem.get (m:Mem)(i:Nat):Option Blk:=m.t.get i
noncomputable def Mem.new (m:Mem)(b:Blk):Mem:=⟨m.t.put m.next b,Nat.succ m.next,m.lim⟩
noncomputable def Mem.set (m:Mem)(i:Nat)(b:Blk):Mem:=⟨m.t.put i b,m.next,m.lim⟩
noncomputable def X0 (b:Option Blk)(k:Nat→Nat→T (List o8)→Option β):Option β:=match b with
 | some (.cells rs n rows)=>k rs n rows
 | _=>none
noncomputable def vEs (b:Option Blk)(k:List (o8×o8)→Option β):Option β:=match b with
 | some (.map es)=>k es
 | _=>none
noncomputable def cell1 (rs n:Nat)(rows:T (List o8))(off:Nat):Option o8:=
 Bool.rec none (Option.rec none (fun row=>vX (Nat.mod off rs) row) (rows.get (Nat.div off rs))) (Nat.blt (Nat.div off rs) n)
noncomputable def jr (rs n:Nat)(rows:T (List o8))(off k:Nat):Option (List o8):=
 bi (Nat.blt (Nat.div off rs) n) (ob (rows.get (Nat.div off rs)) fun row=>
  bi (Nat.beq (Nat.mod off rs) 0) (bi (Nat.beq k rs) (some row) (takeN k row)) (takeN k (jk (Nat.mod off rs) row))) none
noncomputable def O1 (rs n:Nat)(rows:T (List o8))(k:Nat):Nat→Option (List o8):=
 Nat.rec (fun _=>some []) (fun _ ih off=>ob (cell1 rs n rows off) fun v=>ob (ih (Nat.succ off)) fun l=>some (v::l)) k
noncomputable def X8 (rs n:Nat)(rows:T (List o8))(off:Nat)(vs:List o8):Option (T (List o8)):=
 bi (Nat.blt (Nat.div off rs) n) (ob (rows.get (Nat.div off rs)) fun row=>
  bi (Nat.ble (Nat.add (Nat.mod off rs) (len' vs)) rs) (some (rows.put (Nat.div off rs) (jq (Nat.mod off rs) vs row))) none) none
noncomputable def bZ (rs n:Nat)(vs:List o8):T (List o8)→Nat→Option (T (List o8)):=
 List.rec (fun rows _=>some rows) (fun v _ ih rows off=>ob (X8 rs n rows off [v]) fun rows'=>ih rows' (Nat.succ off)) vs
noncomputable def rowsOf (rs n:Nat):List o8→Option (List (List o8)):=
 Nat.rec (fun l=>List.rec (some []) (fun _ _ _=>none) l) (fun _ ih l=>ob (takeN rs l) fun r=>ob (ih (jk rs l)) fun rest=>some (r::rest)) n
noncomputable def K4 (v:o8):Bool:=match v with
 | .undef | .agg _ | .tuple _ | .pan _=>false
 | _=>true
noncomputable def Q6 (l:List o8):Bool:=List.rec true (fun v _ ih=>bi (K4 v) ih false) l
noncomputable def storeAt (m:Mem)(id off:Nat)(vs:List o8)(k:Mem→Option β):Option β:=
 bi (Nat.blt id m.lim) none (bi (Q6 vs) (X0 (m.get id) fun rs n rows=>ob (X8 rs n rows off vs) fun rows'=>k (m.set id (.cells rs n rows'))) none)
noncomputable def aD (m:Mem)(id off:Nat)(vs:List o8)(k:Mem→Option β):Option β:=
 List.rec (k m) (fun _ _ _=>bi (Nat.blt id m.lim) none (bi (Q6 vs) (X0 (m.get id) fun rs n rows=>ob (bZ rs n vs rows off) fun rows'=>k (m.set id (.cells rs n rows'))) none)) vs
abbrev OF:=List o8→T o8→o8
noncomputable def lD (k:Nat):OF:=fun ls _=>nth k ls
noncomputable def oL0:OF:=fun ls _=>List.rec o8.undef (fun x _ _=>x) ls
noncomputable def oL1:OF:=fun ls _=>List.rec o8.undef (fun _ l _=>List.rec o8.undef (fun x _ _=>x) l) ls
noncomputable def oL2:OF:=fun ls _=>List.rec o8.undef (fun _ l _=>List.rec o8.undef (fun _ l _=>List.rec o8.undef (fun x _ _=>x) l) l) ls
noncomputable def oL3:OF:=fun ls _=>List.rec o8.undef (fun _ l _=>List.rec o8.undef (fun _ l _=>List.rec o8.undef (fun _ l _=>List.rec o8.undef (fun x _ _=>x) l) l) l) ls
noncomputable def O5 (v:o8):OF:=fun _ _=>v
noncomputable def gH:T o8→o8:=T.rec .undef (fun _ x _ _ _=>x)
noncomputable def gL (g:T o8→o8):T o8→o8:=T.rec .undef (fun l _ _ _ _=>g l)
noncomputable def gR (g:T o8→o8):T o8→o8:=T.rec .undef (fun _ _ r _ _=>g r)
noncomputable def R5 (g:T o8→o8):OF:=fun _ env=>g env
noncomputable def way:Nat→Nat→T o8→o8
 | 0,_=>fun _=>.undef
 | _+1,0=>gH
 | n+1,j+1=>match j%2 with
  | 0=>gL (way n (j / 2))
  | _=>gR (way n (j / 2))
noncomputable def trO:Opd→OF
 | .loc 0=>oL0
 | .loc 1=>oL1
 | .loc 2=>oL2
 | .loc 3=>oL3
 | .loc k=>lD k
 | .slot j=>R5 (way 64 j)
 | .con v=>O5 v
noncomputable def je:List Opd→List OF
 | []=>[]
 | x::l=>trO x::je l
noncomputable def nE:Option Opd→Option OF
 | none=>none
 | some x=>some (trO x)
noncomputable def evs (l:List OF)(ls:List o8)(env:T o8):List o8:=List.rec [] (fun x _ ih=>x ls env::ih) l
noncomputable def sH:o8→T o8→T o8:=fun v=>T.rec .e (fun l _ r _ _=>.nd l v r)
noncomputable def sL (s:o8→T o8→T o8):o8→T o8→T o8:=fun v=>T.rec .e (fun l x r _ _=>.nd (s v l) x r)
noncomputable def sR (s:o8→T o8→T o8):o8→T o8→T o8:=fun v=>T.rec .e (fun l x r _ _=>.nd l x (s v r))
noncomputable def H9:Nat→Nat→o8→T o8→T o8
 | 0,_=>fun _ t=>t
 | _+1,0=>sH
 | n+1,j+1=>match j%2 with
  | 0=>sL (H9 n (j / 2))
  | _=>sR (H9 n (j / 2))
noncomputable def sNo:o8→T o8→T o8:=fun _ t=>t
noncomputable def trD:Option Nat→o8→T o8→T o8
 | none=>sNo
 | some j=>H9 64 j
noncomputable def w64 (n:Int):Int:=match n with
 | .ofNat m=>bi (Nat.blt m 9223372036854775808) (.ofNat m) (IntKind.i64.wrap (.ofNat m))
 | .negSucc m=>bi (Nat.blt m 9223372036854775808) (.negSucc m) (IntKind.i64.wrap (.negSucc m))
noncomputable def iy (k:IntKind)(n:Int):Int:=match k with
 | .i64=>w64 n
 | k=>k.wrap n
noncomputable def rR:Int→Int→Bool
 | .ofNat a,.ofNat b=>Nat.beq a b
 | .negSucc a,.negSucc b=>Nat.beq a b
 | _,_=>false
noncomputable def nG:Int→Int→Bool
 | .ofNat a,.ofNat b=>Nat.blt a b
 | .negSucc _,.ofNat _=>true
 | .ofNat _,.negSucc _=>false
 | .negSucc a,.negSucc b=>Nat.blt b a
noncomputable def kEq (a b:IntKind):Bool:=match a,b with
 | .i64,.i64=>true
 | a,b=>decide (a=b)
noncomputable def strEq (a:List UInt8):List UInt8→Bool:=
 List.rec (fun b=>List.rec true (fun _ _ _=>false) b) (fun x _ ih b=>List.rec false (fun y ys _=>bi (Nat.beq x.toNat y.toNat) (ih ys) false) b) a
noncomputable def lF:List UInt8→List UInt8→Bool
 | _,[]=>false
 | [],_ :: _=>true
 | a::x,b::y=>a<b||(a==b&&lF x y)
noncomputable def Ee (k:IntKind)(f:BitVec k.bits→BitVec k.bits→BitVec k.bits)(a b:Int):o8:=
 .int k (k.wrap (f (BitVec.ofInt k.bits a) (BitVec.ofInt k.bits b)).toNat)
noncomputable def aeL (b:Int)(r:Option o8):Option o8:=match b with
 | .ofNat 0=>none
 | _=>r
abbrev IB:=IntKind→Int→Int→Option o8
noncomputable def bG:IB:=fun k a b=>some (.int k (iy k (a+b)))
noncomputable def iA:IB:=fun k a b=>some (.int k (iy k (a-b)))
noncomputable def vY:IB:=fun k a b=>some (.int k (iy k (a*b)))
noncomputable def Bt:IB:=fun k a b=>aeL b (some (.int k (iy k (a.tdiv b))))
noncomputable def zQ:IB:=fun k a b=>aeL b (some (.int k (a.tmod b)))
noncomputable def atV:IB:=fun k a b=>some (Ee k (· &&& ·) a b)
noncomputable def iOr:IB:=fun k a b=>some (Ee k (· ||| ·) a b)
noncomputable def atW:IB:=fun k a b=>some (Ee k (· ^^^ ·) a b)
noncomputable def Ef:IB:=fun k a b=>some (Ee k (fun x y=>x &&& ~~~y) a b)
noncomputable def iEq:IB:=fun _ a b=>some (.bool (rR a b))
noncomputable def iNe:IB:=fun _ a b=>some (.bool (!rR a b))
noncomputable def iLt:IB:=fun _ a b=>some (.bool (nG a b))
noncomputable def iLe:IB:=fun _ a b=>some (.bool (!nG b a))
noncomputable def iGt:IB:=fun _ a b=>some (.bool (nG b a))
noncomputable def iGe:IB:=fun _ a b=>some (.bool (!nG a b))
noncomputable def iNo:IB:=fun _ _ _=>none
abbrev SB:=List UInt8→List UInt8→Option o8
noncomputable def bI:SB:=fun a b=>bi (Nat.blt (Nat.add (len' a) (len' b)) 9223372036854775808) (some (.str (gJ a b))) none
noncomputable def sEq:SB:=fun a b=>some (.bool (strEq a b))
noncomputable def sNe:SB:=fun a b=>some (.bool (!strEq a b))
noncomputable def sLt:SB:=fun a b=>some (.bool (lF a b))
noncomputable def sLe:SB:=fun a b=>some (.bool (lF a b||strEq a b))
noncomputable def sGt:SB:=fun a b=>some (.bool (!(lF a b||strEq a b)))
noncomputable def sGe:SB:=fun a b=>some (.bool (!lF a b))
noncomputable def O6:SB:=fun _ _=>none
noncomputable def Ja:BinOp→IB
 | .add=>bG | .sub=>iA | .mul=>vY | .quo=>Bt | .rem=>zQ | .and=>atV | .or=>iOr | .xor=>atW | .andNot=>Ef
 | .shl=>iNo | .shr=>iNo | .eql=>iEq | .neq=>iNe | .lss=>iLt | .leq=>iLe | .gtr=>iGt | .geq=>iGe
noncomputable def Jb:BinOp→SB
 | .add=>bI | .eql=>sEq | .neq=>sNe | .lss=>sLt | .leq=>sLe | .gtr=>sGt | .geq=>sGe
 | _=>O6
noncomputable def DY (f:IB)(g:SB)(x y:o8):Option o8:=match x with
 | .int k a=>wh y fun k' b=>bi (kEq k k') (f k a b) none
 | .str a=>Br y fun b=>g a b
 | _=>none
noncomputable def adN (x y:o8):Option o8:=wh x fun k a=>kT y fun m=>some (.int k (iy k (a*2^(min m k.bits))))
noncomputable def TW (x y:o8):Option o8:=wh x fun k a=>kT y fun m=>some (.int k (a.fdiv (2^(min m k.bits))))
noncomputable def wz (a b:Bool):Bool:=bi a b (bi b false true)
noncomputable def X9 (x y:o8):Option Bool:=wh x fun k a=>wh y fun k' b=>bi (kEq k k') (some (rR a b)) none
noncomputable def lU (x y:o8):Option Bool:=lT x fun a=>lT y fun b=>some (wz a b)
noncomputable def eqStr (x y:o8):Option Bool:=Br x fun a=>Br y fun b=>some (strEq a b)
noncomputable def KI (k:PK):o8→o8→Option Bool:=match k with
 | .i=>X9
 | .b=>lU
 | .s=>eqStr
noncomputable def aN (ks:List PK):List o8→List o8→Option Bool:=
 List.rec (fun _ _=>some true) (fun k _ ih a b=>List.rec none (fun x xs _=>List.rec none (fun y ys _=>ob (KI k x y) fun r=>bi r (ih xs ys) (some false)) b) a) ks
noncomputable def R4 (ks:List PK)(x y:o8):Option Bool:=wm x fun a=>wm y fun b=>aN ks a b
noncomputable def Eh (x y:o8):Option Bool:=match x,y with
 | .nilPtr,.nilPtr=>some true
 | .nilPtr,.ptr _ _=>some false
 | .ptr _ _,.nilPtr=>some false
 | _,_=>none
noncomputable def dK (x y:o8):Option Bool:=match x,y with
 | .nilSlice,.nilSlice=>some true
 | .nilSlice,.slice .. | .nilSlice,.sliceU ..=>some false
 | .slice ..,.nilSlice | .sliceU ..,.nilSlice=>some false
 | _,_=>none
noncomputable def Ei (x y:o8):Option Bool:=match x,y with
 | .nilMap,.nilMap=>some true
 | .nilMap,.map _ | .map _,.nilMap=>some false
 | _,_=>none
noncomputable def wB (x y:o8):Option Bool:=match x,y with
 | .nilFunc,.nilFunc=>some true
 | .nilFunc,.func .. | .func ..,.nilFunc=>some false
 | _,_=>none
noncomputable def qc (x y:o8):Option Bool:=match x,y with
 | .nilIface,.nilIface=>some true
 | .nilIface,.iface .. | .iface ..,.nilIface=>some false
 | _,_=>none
abbrev EqF:=o8→o8→Option Bool
noncomputable def vZ:EqK→EqF
 | .prim .i=>X9 | .prim .b=>lU | .prim .s=>eqStr | .flat ks=>R4 ks | .ptr=>Eh | .slice=>dK | .map=>Ei | .func=>wB | .iface=>qc
abbrev PF:=List o8→T o8→Option o8
noncomputable def bg (x:OF):PF:=fun ls env=>some (x ls env)
noncomputable def aO (c a b:OF):PF:=fun ls env=>lT (c ls env) fun t=>some (bi t (a ls env) (b ls env))
noncomputable def lay (ps:List (Nat×Nat×OF))(ls:List o8)(env:T o8):List o8→Option (List o8):=
 List.rec (fun cs=>some cs) (fun p _ ih cs=>
  bi (Nat.beq (len' (p.2.2 ls env).cells) p.2.1) (bi (Nat.ble (Nat.add p.1 p.2.1) (len' cs)) (ih (jq p.1 (p.2.2 ls env).cells cs)) none) none) ps
noncomputable def J9 (zero:List o8)(ps:List (Nat×Nat×OF)):PF:=fun ls env=>ob (lay ps ls env zero) fun l=>some (.agg l)
noncomputable def sM (v:o8):Option o8:=match v with
 | .nilPtr | .nilIface | .nilFunc=>none
 | .func (.func f) a b=>some (.func (.func f) a b)
 | .func ..=>none
 | v=>some v
noncomputable def cu (x:OF):PF:=fun ls env=>sM (x ls env)
noncomputable def pIb (f:IB)(g:SB)(x y:OF):PF:=fun ls env=>DY f g (x ls env) (y ls env)
noncomputable def aeM (x y:OF):PF:=fun ls env=>adN (x ls env) (y ls env)
noncomputable def KJ (x y:OF):PF:=fun ls env=>TW (x ls env) (y ls env)
noncomputable def pEq (f:EqF)(x y:OF):PF:=fun ls env=>ob (f (x ls env) (y ls env)) fun b=>some (.bool b)
noncomputable def pNe (f:EqF)(x y:OF):PF:=fun ls env=>ob (f (x ls env) (y ls env)) fun b=>some (.bool (!b))
noncomputable def uJ (x:OF):PF:=fun ls env=>lT (x ls env) fun b=>some (.bool (!b))
noncomputable def TY (x:OF):PF:=fun ls env=>wh (x ls env) fun k n=>some (.int k (iy k (0-n)))
noncomputable def jv (k:IntKind)(x:OF):PF:=fun ls env=>wh (x ls env) fun _ n=>some (.int k (iy k n))
noncomputable def wC (t:TypeId)(x:OF):PF:=fun ls env=>some (.iface t (x ls env))
noncomputable def dD (fn:Fn)(a b:List OF):PF:=fun ls env=>some (.func fn (evs a ls env) (evs b ls env))
noncomputable def cB (o:Option OF)(d:Nat)(ls:List o8)(env:T o8)(k:Nat→Option β):Option β:=
 Option.rec (k d) (fun x=>kT (x ls env) k) o
noncomputable def sN (x:OF)(lo hi:Option OF):PF:=fun ls env=>Br (x ls env) fun s=>
 cB lo 0 ls env fun l=>cB hi (len' s) ls env fun h=>
  bi (Nat.ble l h) (bi (Nat.ble h (len' s)) (ob (takeN (Nat.sub h l) (jk l s)) fun r=>some (.str r)) none) none
noncomputable def wD (es n:Nat)(x:OF)(lo hi:Option OF):PF:=fun ls env=>nD (x ls env) fun id off=>
 cB lo 0 ls env fun l=>cB hi n ls env fun h=>
  bi (Nat.ble l h) (bi (Nat.ble h n) (some (.slice id (bi (Nat.beq l n) off (Nat.add off (Nat.mul l es))) (Nat.sub h l) (Nat.sub n l))) none) none
noncomputable def H8 (o:Nat)(x:OF):PF:=fun ls env=>nD (x ls env) fun id off=>some (.ptr id (Nat.add off o))
noncomputable def Ej (off:Nat)(x:OF):PF:=fun ls env=>wm (x ls env) fun cs=>vX off cs
noncomputable def Jc (off k:Nat)(x:OF):PF:=fun ls env=>wm (x ls env) fun cs=>ob (takeN k (jk off cs)) fun l=>some (.agg l)
noncomputable def idx (len:Nat)(v:o8)(k:Nat→Option β):Option β:=kT v fun i=>bi (Nat.blt i len) (k i) none
noncomputable def J3 (es:Nat)(x i:OF):PF:=fun ls env=>
 vSl (x ls env) none (fun id off len _=>idx len (i ls env) fun k=>some (.ptr id (Nat.add off (Nat.mul k es))))
  (fun id off len _=>idx len (i ls env) fun k=>some (.ptr id (Nat.add off (Nat.mul k es))))
noncomputable def bA (es n:Nat)(x i:OF):PF:=fun ls env=>nD (x ls env) fun id off=>idx n (i ls env) fun k=>some (.ptr id (Nat.add off (Nat.mul k es)))
noncomputable def Bu (es n:Nat)(x i:OF):PF:=fun ls env=>wm (x ls env) fun cs=>idx n (i ls env) fun k=>vX (Nat.mul k es) cs
noncomputable def El (es n sz:Nat)(x i:OF):PF:=fun ls env=>wm (x ls env) fun cs=>idx n (i ls env) fun k=>ob (takeN sz (jk (Nat.mul k es) cs)) fun l=>some (.agg l)
noncomputable def Cx (x i:OF):PF:=fun ls env=>Br (x ls env) fun s=>kT (i ls env) fun k=>ob (vX k s) fun b=>some (.int .u8 b.toNat)
noncomputable def pExt (x:OF)(i:Nat):PF:=fun ls env=>KG (x ls env) fun l=>vX i l
noncomputable def lenOf (v:o8):Option Nat:=match v with
 | .nilSlice=>some 0
 | .slice _ _ n _=>some n
 | .sliceU _ _ n _=>some n
 | .str s=>some (len' s)
 | _=>none
noncomputable def lV (x:OF):PF:=fun ls env=>vSl (x ls env) (some (.int .i64 0)) (fun _ _ n _=>some (.int .i64 (.ofNat n))) (fun _ _ n _=>some (.int .i64 (.ofNat n)))
noncomputable def Cy (x:OF):PF:=fun ls env=>Br (x ls env) fun s=>some (.int .i64 (.ofNat (len' s)))
noncomputable def Ua (x:OF):PF:=fun ls env=>vSl (x ls env) (some (.int .i64 0)) (fun _ _ _ c=>some (.int .i64 (.ofNat c))) (fun _ _ _ _=>none)
noncomputable def mm2 (mx:Bool)(x y:o8):Option o8:=wh x fun k a=>wh y fun _ b=>some (.int k (bi mx (bi (nG a b) b a) (bi (nG b a) b a)))
noncomputable def Em (mx:Bool)(ys:List o8):o8→Option o8:=List.rec (fun x=>some x) (fun y _ ih x=>ob (mm2 mx x y) ih) ys
noncomputable def pMm (mx:Bool)(x:OF)(xs:List OF):PF:=fun ls env=>Em mx (evs xs ls env) (x ls env)
noncomputable def En (t:TypeId)(zero:o8)(ok:Bool)(v:o8):Option o8:=match v with
 | .iface u y=>bi (Nat.beq u t) (some (bi ok (.tuple [y,.bool true]) y)) (bi ok (some (.tuple [zero,.bool false])) none)
 | .nilIface=>bi ok (some (.tuple [zero,.bool false])) none
 | _=>none
noncomputable def Eo (t:TypeId)(zero:o8)(ok:Bool)(x:OF):PF:=fun ls env=>En t zero ok (x ls env)
noncomputable def Cz:List (Nat×Nat×Opd)→List (Nat×Nat×OF)
 | []=>[]
 | p::l=>(p.1,p.2.1,trO p.2.2)::Cz l
noncomputable def trP:POp→PF
 | .mov x=>bg (trO x)
 | .pick c a b=>aO (trO c) (trO a) (trO b)
 | .build z ps=>J9 z (Cz ps)
 | .nilCheck x=>cu (trO x)
 | .ib op x y=>match op with
  | .shl=>aeM (trO x) (trO y)
  | .shr=>KJ (trO x) (trO y)
  | op=>pIb (Ja op) (Jb op) (trO x) (trO y)
 | .eq neg k x y=>match neg with
  | true=>pNe (vZ k) (trO x) (trO y)
  | false=>pEq (vZ k) (trO x) (trO y)
 | .not x=>uJ (trO x)
 | .neg x=>TY (trO x)
 | .conv k x=>jv k (trO x)
 | .mkIface t x=>wC t (trO x)
 | .mkFunc fn a b=>dD fn (je a) (je b)
 | .slStr x lo hi=>sN (trO x) (nE lo) (nE hi)
 | .slArr es n x lo hi=>wD es n (trO x) (nE lo) (nE hi)
 | .fAddr o x=>H8 o (trO x)
 | .fld off size x=>match size with
  | none=>Ej off (trO x)
  | some k=>Jc off k (trO x)
 | .iAddr es x i=>J3 es (trO x) (trO i)
 | .iAddrArr es n x i=>bA es n (trO x) (trO i)
 | .iArr es n size x i=>match size with
  | none=>Bu es n (trO x) (trO i)
  | some k=>El es n k (trO x) (trO i)
 | .iStr x i=>Cx (trO x) (trO i)
 | .ext x i=>pExt (trO x) i
 | .len x=>lV (trO x)
 | .lenS x=>Cy (trO x)
 | .cap x=>Ua (trO x)
 | .mm mx x xs=>pMm mx (trO x) (je xs)
 | .assert t z ok x=>Eo t z ok (trO x)
abbrev RF:=List o8→T o8→Mem→Option o8
noncomputable def eT (a:OF):RF:=fun ls env m=>nD (a ls env) fun id off=>X0 (m.get id) fun rs n rows=>cell1 rs n rows off
noncomputable def K9 (k:Nat)(a:OF):RF:=fun ls env m=>nD (a ls env) fun id off=>X0 (m.get id) fun rs n rows=>ob (jr rs n rows off k) fun l=>some (.agg l)
noncomputable def findKey (f:EqF)(k:o8)(es:List (o8×o8)):Nat→Option (Option (Nat×o8)):=
 List.rec (fun _=>some none) (fun e _ ih i=>ob (f k e.1) fun b=>bi b (some (some (i,e.2))) (ih (Nat.succ i))) es
noncomputable def found (ok:Bool)(zero:o8)(o:Option (Nat×o8)):Option o8:=
 Option.rec (some (bi ok (.tuple [zero,.bool false]) zero)) (fun p=>some (bi ok (.tuple [p.2,.bool true]) p.2)) o
noncomputable def R8 (f:EqF)(n:Nat)(k:o8)(es:List (o8×o8)):Option (Option (Nat×o8)):=
 bi (Nat.beq (len' k.cells) n) (List.rec (ob (f k k) fun _=>some none) (fun _ _ _=>findKey f k es 0) es) none
noncomputable def bB (f:EqF)(n:Nat)(zero:o8)(ok:Bool)(mp k:OF):RF:=fun ls env m=>
 wo (mp ls env) (ob (R8 f n (k ls env) []) fun r=>found ok zero r) fun id=>vEs (m.get id) fun es=>ob (R8 f n (k ls env) es) fun r=>found ok zero r
noncomputable def UG (x:OF):RF:=fun ls env m=>wo (x ls env) (some (.int .i64 0)) fun id=>vEs (m.get id) fun es=>some (.int .i64 (.ofNat (len' es)))
noncomputable def bytesOf:List UInt8→List o8
 | []=>[]
 | b::l=>.int .u8 b.toNat::bytesOf l
noncomputable def byteOf:List o8→Option (List UInt8)
 | []=>some []
 | .int .u8 (.ofNat n)::l=>match byteOf l with
  | some s=>some (UInt8.ofNat n::s)
  | none=>none
 | _ :: _=>none
noncomputable def U6 (m:Mem)(id off n:Nat):Option (List o8):=
 Nat.rec (some []) (fun _ _=>X0 (m.get id) fun rs k rows=>O1 rs k rows n off) n
noncomputable def U2 (m:Mem)(es n:Nat)(v:o8):Option (List o8):=match v with
 | .nilSlice=>some []
 | .slice id off _ _=>U6 m id off (Nat.mul n es)
 | .sliceU id off _ _=>U6 m id off (Nat.mul n es)
 | .str s=>some (bytesOf (s.take n))
 | _=>none
noncomputable def qd (x:OF):RF:=fun ls env m=>
 vSl (x ls env) (some (.str [])) (fun id off len _=>ob (U6 m id off len) fun l=>ob (byteOf l) fun s=>some (.str s))
  (fun id off len _=>ob (U6 m id off len) fun l=>ob (byteOf l) fun s=>some (.str s))
noncomputable def Jd (b:Option Blk)(nl:Option β)(k:Nat→Nat→List Nat→Option β):Option β:=match b with
 | some (.iter none _ _)=>nl
 | some (.iter (some mp) since seen)=>k mp since seen
 | _=>none
noncomputable def wE (it:OF):RF:=fun ls env m=>nD (it ls env) fun id off=>bi (Nat.beq off 0)
 (Jd (m.get id) none fun mp since seen=>List.rec none (fun i _ _=>vEs (m.get mp) fun es=>bi (Nat.beq (len' es) since) (ob (vX i es) fun e=>some (.tuple [e.1,e.2])) none) seen) none
def Je:EqK→Nat
 | .flat ks=>ks.length
 | _=>1
noncomputable def trR:ROp→RF
 | .load size a=>match size with
  | none=>eT (trO a)
  | some k=>K9 k (trO a)
 | .look kk zero ok m k=>bB (vZ kk) (Je kk) zero ok (trO m) (trO k)
 | .lenM x=>UG (trO x)
 | .bytesStr x=>qd (trO x)
 | .entry it=>wE (trO it)
abbrev LR:=Option (o8×Option Blk)
abbrev LF:=List o8→T o8→Nat→LR
noncomputable def D9 (cs:List o8):Blk:=.cells (len' cs) 1 (.nd .e cs .e)
noncomputable def dL (es n:Nat)(cells:List o8)(k:Blk→Option β):Option β:=ob (rowsOf es n cells) fun rows=>k (.cells es n (T.ofList rows))
noncomputable def bR (zero:List o8):LF:=fun _ _ nid=>some (.ptr nid 0,some (D9 zero))
noncomputable def Jf (x:OF):LF:=fun ls env nid=>some (.ptr nid 0,some (D9 (x ls env).cells))
noncomputable def N7 (zero:List o8)(n:Nat):List o8:=Nat.rec [] (fun _ ih=>gJ zero ih) n
noncomputable def I6 (es len:Nat)(zero:List o8)(ps:List (Nat×Nat×OF)):LF:=fun ls env nid=>
 ob (lay ps ls env (N7 zero len)) fun cells=>dL es len cells fun b=>some (.slice nid 0 len len,some b)
noncomputable def jw:LF:=fun _ _ nid=>some (.map nid,some (.map []))
noncomputable def pO (es bytes:Nat)(zero:List o8)(len cap:OF):LF:=fun ls env nid=>
 kT (len ls env) fun l=>kT (cap ls env) fun c=>
  bi (Nat.ble l c) (bi (Nat.ble (Nat.mul bytes c) 281474976710656) (bi (Nat.blt c 9223372036854775808)
   (some (.slice nid 0 l c,some (.cells es c (T.rep zero c .e 0)))) none) none) none
noncomputable def wF (x:OF):LF:=fun ls env nid=>Br (x ls env) fun s=>dL 1 (len' s) (bytesOf s) fun b=>some (.sliceU nid 0 (len' s) 1,some b)
noncomputable def O7 (nid es:Nat)(x:o8)(lo:Nat)(hi:Option Nat):LR:=
 vSl x (bi (Nat.beq lo 0) (Option.rec (some (.nilSlice,none)) (fun h=>bi (Nat.beq h 0) (some (.nilSlice,none)) none) hi) none)
  (fun id off len cap=>Option.rec (known id off cap len) (fun h=>known id off cap h) hi)
  (fun id off len es'=>Option.rec (unk id off len es' len) (fun h=>unk id off len es' h) hi)
where
 known (id off cap h:Nat):LR:=bi (Nat.ble lo h) (bi (Nat.ble h cap)
  (some (.slice id (bi (Nat.beq lo cap) off (Nat.add off (Nat.mul lo es))) (Nat.sub h lo) (Nat.sub cap lo),none)) none) none
 unk (id off len es' h:Nat):LR:=bi (Nat.ble lo h) (bi (Nat.ble h len) (bi (Nat.beq es es')
  (bi (Nat.blt lo len) (some (.sliceU id (Nat.add off (Nat.mul lo es)) (Nat.sub h lo) es,none))
   (bi (Nat.beq lo 0) (some (.sliceU id off (Nat.sub h lo) es,none)) (some (.sliceU nid 0 0 es,some (.tail id))))) none) none) none
noncomputable def lSl (es:Nat)(x:OF)(lo hi:Option OF):LF:=fun ls env nid=>cB lo 0 ls env fun l=>
 Option.rec (O7 nid es (x ls env) l none) (fun h=>kT (h ls env) fun h=>O7 nid es (x ls env) l (some h)) hi
noncomputable def trL:LOp→LF
 | .alloc zero=>bR zero
 | .box x=>Jf (trO x)
 | .buildSlice es len zero ps=>I6 es len zero (Cz ps)
 | .mkMap=>jw
 | .mkSlice es bytes zero l c=>pO es bytes zero (trO l) (trO c)
 | .strBytes x=>wF (trO x)
 | .sl es x lo hi=>lSl es (trO x) (nE lo) (nE hi)
structure VM where
 v:o8
 m:Mem
abbrev rM:=Option (List VM)
abbrev L8:=Fn→List o8→Mem→rM
abbrev EF:=L8→List o8→T o8→Mem→rM
noncomputable def one (v:o8)(m:Mem):rM:=some [⟨v,m⟩]
noncomputable def K3 (size:Nat)(a x:OF):EF:=fun _ ls env m=>nD (a ls env) fun id off=>
 bi (Nat.beq (len' (x ls env).cells) size) (storeAt m id off (x ls env).cells fun m'=>one .undef m') none
noncomputable def dZ (es:List (o8×o8))(k v:o8):Nat→List (o8×o8):=
 List.rec (fun _=>[]) (fun e es ih i=>Nat.rec ((k,v)::es) (fun j _=>e::ih j) i) es
noncomputable def bn (f:EqF)(n:Nat)(mp k x:OF):EF:=fun _ ls env m=>wo (mp ls env) none fun id=>bi (Nat.blt id m.lim) none
 (vEs (m.get id) fun es=>ob (R8 f n (k ls env) es) fun r=>
  Option.rec (one .undef (m.set id (.map (gJ es [(k ls env,x ls env)])))) (fun p=>ob (vX p.1 es) fun e=>
   bi (Nat.beq (len' e.1.cells) n) (one .undef (m.set id (.map (dZ es (k ls env) (x ls env) p.1)))) none) r)
noncomputable def wG (x:OF):EF:=fun _ ls env m=>wo (x ls env) (one (.ptr m.next 0) (m.new (.iter none 0 [])))
 fun id=>vEs (m.get id) fun es=>one (.ptr m.next 0) (m.new (.iter (some id) (len' es) []))
noncomputable def UH (n:Nat)(l:List Nat):Bool:=List.rec false (fun x _ ih=>bi (Nat.beq x n) true ih) l
noncomputable def nexts (m:Mem)(id mp since:Nat)(seen:List Nat)(es:List (o8×o8)):Nat→List VM:=
 List.rec (fun _=>[]) (fun e _ ih i=>bi (UH i seen) (ih (Nat.succ i))
  (⟨.tuple [.bool true,e.1,e.2],m.set id (.iter (some mp) since (i::seen))⟩::ih (Nat.succ i))) es
noncomputable def Ep (m:Mem)(l:List VM):List VM:=List.rec [⟨.tuple [.bool false],m⟩] (fun x xs _=>x::xs) l
noncomputable def Er (it:OF):EF:=fun _ ls env m=>nD (it ls env) fun id off=>bi (Nat.beq off 0) (bi (Nat.blt id m.lim) none
 (Jd (m.get id) (one (.tuple [.bool false]) m) fun mp since seen=>vEs (m.get mp) fun es=>
  bi (Nat.beq (len' es) since) (some (Ep m (nexts m id mp since seen es 0))) none)) none
noncomputable def big (n bytes es:Nat):Bool:=bi (Nat.ble (Nat.mul (Nat.add (Nat.mul 2 n) 2048) bytes) 281474976710656) (bi (Nat.ble 1 es) (Nat.ble 1 bytes) false) false
noncomputable def grown (m:Mem)(es n:Nat)(cells:List o8):rM:=dL es n cells fun b=>one (.sliceU m.next 0 n es) (m.new b)
noncomputable def Es (m:Mem)(es bytes n:Nat)(new:List o8):rM:=
 Nat.rec (one .nilSlice m) (fun _ _=>bi (big n bytes es) (grown m es n new) none) n
noncomputable def lW (m:Mem)(es bytes n:Nat)(new:List o8)(id off len cap:Nat):rM:=
 bi (Nat.ble (Nat.add len n) cap) (aD m id (Nat.add off (Nat.mul len es)) new fun m'=>one (.slice id off (Nat.add len n) cap) m')
  (bi (big (Nat.add len n) bytes es) (ob (U6 m id off (Nat.mul len es)) fun old=>grown m es (Nat.add len n) (gJ old new)) none)
noncomputable def CB (b:Option Blk)(c:Nat→Nat→T (List o8)→Option β)(k:Nat→Option β):Option β:=match b with
 | some (.cells rs n rows)=>c rs n rows
 | some (.tail p)=>k p
 | _=>none
noncomputable def Bv (m:Mem)(es bytes n:Nat)(new:List o8)(id off len es':Nat):rM:=
 Nat.rec (one (.sliceU id off len es') m) (fun _ _=>bi (Nat.beq es es') (bi (big (Nat.add len n) bytes es) (bi (Nat.ble m.lim id) (bi (Q6 new)
  (CB (m.get id)
   (fun rs k rows=>
    bi (bi (Nat.beq rs es) (bi (Nat.beq off 0) (bi (Nat.ble len k) (bi (Nat.beq n 1) (Nat.beq (len' new) es) false) false) false) false)
     (one (.sliceU m.next 0 (Nat.succ len) es) ((m.set id .dead).new (.cells es (Nat.succ len) (rows.put len new))))
     (ob (O1 rs k rows (Nat.mul len es) off) fun old=>grown (m.set id .dead) es (Nat.add len n) (gJ old new)))
   (fun p=>X0 (m.get p) fun _ _ _=>bi (Nat.ble m.lim p) (bi (Nat.beq len 0) (grown (m.set p .dead) es n new) none) none)) none) none) none) none) n
noncomputable def lX (m:Mem)(es bytes n:Nat)(new:List o8)(s:o8):rM:=
 vSl s (Es m es bytes n new) (fun a b c d=>lW m es bytes n new a b c d) (fun a b c d=>Bv m es bytes n new a b c d)
noncomputable def dG (es bytes:Nat)(s x:OF):EF:=fun _ ls env m=>ob (lenOf (x ls env)) fun n=>ob (U2 m es n (x ls env)) fun new=>lX m es bytes n new (s ls env)
noncomputable def Et (es:Nat)(zero:List o8)(bytes:Nat)(s x:OF):EF:=fun _ ls env m=>kT (x ls env) fun n=>
 bi (Nat.ble (Nat.mul n bytes) 281474976710656) (bi (Nat.blt n 9223372036854775808) (lX m es bytes n (N7 zero n) (s ls env)) none) none
noncomputable def Jg (es:Nat)(d s:OF):EF:=fun _ ls env m=>ob (lenOf (s ls env)) fun n=>
 vSl (d ls env) (one (.int .i64 0) m) (fun id off len _=>go m n id off len (s ls env)) (fun id off len _=>go m n id off len (s ls env))
where
 go (m:Mem) (n id off len:Nat) (s:o8):rM:=ob (U2 m es (Nat.min n len) s) fun cells=>aD m id off cells fun m'=>one (.int .i64 (.ofNat (Nat.min n len))) m'
noncomputable def om (zero:List o8)(x:OF):EF:=fun _ ls env m=>
 vSl (x ls env) (one (.tuple []) m) (fun id off len _=>aD m id off (N7 zero len) fun m'=>one (.tuple []) m')
  (fun id off len _=>aD m id off (N7 zero len) fun m'=>one (.tuple []) m')
noncomputable def D8 (f:FuncId)(args:List OF):EF:=fun cf ls env m=>cf (.func f) (evs args ls env) m
noncomputable def MK (cf:L8)(m:Mem)(args:List o8)(v:o8):rM:=MJ v fun fn a b=>match fn with
 | .func f=>cf (.func f) (gJ a (gJ args b)) m
 | .yield l=>cf (.yield l) (gJ a args) m
 | _=>none
noncomputable def bS (f:OF)(args:List OF):EF:=fun cf ls env m=>MK cf m (evs args ls env) (f ls env)
noncomputable def atX (v:o8)(m:Mem):rM:=match v with
 | .iface t x=>one (.pan (.iface t x)) m
 | _=>none
noncomputable def Bw (x:OF):EF:=fun _ ls env m=>atX (x ls env) m
noncomputable def adO:EF:=fun _ _ _ _=>none
noncomputable def trE:EOp→EF
 | .store size a x=>K3 size (trO a) (trO x)
 | .mapSet kk m k x=>bn (vZ kk) (Je kk) (trO m) (trO k) (trO x)
 | .range x=>wG (trO x)
 | .next it=>Er (trO it)
 | .app es zeros zero bytes s x=>match zeros with
  | true=>Et es zero bytes (trO s) (trO x)
  | false=>dG es bytes (trO s) (trO x)
 | .copy es d s=>Jg es (trO d) (trO s)
 | .clear zero x=>om zero (trO x)
 | .call f args=>D8 f (je args)
 | .callv f args=>bS (trO f) (je args)
 | .panic x=>Bw (trO x)
 | .defer _ _=>adO
 | .recover=>adO
 | .bad=>adO
noncomputable def CF (f:α→Option (List β))(l:List α):Option (List β):=
 List.rec (some []) (fun a _ ih=>ob (f a) fun x=>ob ih fun y=>some (x++y)) l
noncomputable def bnd (x:Option (List α))(f:α→Option (List β)):Option (List β):=
 Option.rec none (fun l=>List.rec (some []) (fun a t _=>List.rec (f a) (fun _ _ _=>CF f l) t) l) x
structure EM where
 env:T o8
 m:Mem
 px:Option o8
 mks:List Mk
noncomputable def gW (v:o8)(p:o8→β)(q:β):β:=match v with
 | .pan x=>p x
 | _=>q
abbrev RC:=L8→List o8→T o8→Mem→Option (List EM)
noncomputable def u7:RC:=fun _ _ env m=>some [⟨env,m,none,[]⟩]
noncomputable def rcP (f:PF)(d:o8→T o8→T o8)(k:RC):RC:=fun cf ls env m=>Option.rec none (fun v=>k cf (v::ls) (d v env) m) (f ls env)
noncomputable def o9 (f:PF)(k:RC):RC:=fun cf ls env m=>Option.rec none (fun v=>k cf (v::ls) env m) (f ls env)
noncomputable def rcR (f:RF)(d:o8→T o8→T o8)(k:RC):RC:=fun cf ls env m=>Option.rec none (fun v=>k cf (v::ls) (d v env) m) (f ls env m)
noncomputable def F9 (f:RF)(k:RC):RC:=fun cf ls env m=>Option.rec none (fun v=>k cf (v::ls) env m) (f ls env m)
noncomputable def II (m:Mem)(b:Option Blk):Mem:=Option.rec m (fun b=>m.new b) b
noncomputable def rcL (f:LF)(d:o8→T o8→T o8)(k:RC):RC:=fun cf ls env m=>ob (f ls env m.next) fun r=>k cf (r.1::ls) (d r.1 env) (II m r.2)
noncomputable def R9 (f:LF)(k:RC):RC:=fun cf ls env m=>Option.rec none (fun r=>k cf (r.1::ls) env (II m r.2)) (f ls env m.next)
noncomputable def G8 (f:EF)(k:RC):RC:=fun cf ls env m=>bnd (f cf ls env m) fun r=>gW r.v (fun x=>some [⟨env,r.m,some x,[]⟩]) (k cf (r.v::ls) env r.m)
noncomputable def rcE (f:EF)(d:o8→T o8→T o8)(k:RC):RC:=fun cf ls env m=>bnd (f cf ls env m) fun r=>gW r.v (fun x=>some [⟨env,r.m,some x,[]⟩]) (k cf (r.v::ls) (d r.v env) r.m)
noncomputable def Jh (f:OF)(args:List OF):RC:=fun _ ls env m=>MJ (f ls env) fun fn a b=>some [⟨env,m,none,[.d (.func fn a b) (evs args ls env)]⟩]
noncomputable def isB (w:Bool)(v:o8):Bool:=match v with
 | .bool b=>wz b w
 | _=>false
noncomputable def gP (x:OF)(w:Bool)(f:PF):PF:=fun ls env=>bi (isB w (x ls env)) (f ls env) (some .undef)
noncomputable def gRd (x:OF)(w:Bool)(f:RF):RF:=fun ls env m=>bi (isB w (x ls env)) (f ls env m) (some .undef)
noncomputable def gLk (x:OF)(w:Bool)(f:LF):LF:=fun ls env i=>bi (isB w (x ls env)) (f ls env i) (some (.undef,none))
noncomputable def gE (x:OF)(w:Bool)(f:EF):EF:=fun cf ls env m=>bi (isB w (x ls env)) (f cf ls env m) (one .undef m)
noncomputable def Ji (g:Option (Opd×Bool))(f:PF):PF:=match g with
 | none=>f
 | some (x,w)=>gP (trO x) w f
noncomputable def Eu (g:Option (Opd×Bool))(f:RF):RF:=match g with
 | none=>f
 | some (x,w)=>gRd (trO x) w f
noncomputable def ML (g:Option (Opd×Bool))(f:LF):LF:=match g with
 | none=>f
 | some (x,w)=>gLk (trO x) w f
noncomputable def UJ (g:Option (Opd×Bool))(f:EF):EF:=match g with
 | none=>f
 | some (x,w)=>gE (trO x) w f
noncomputable def trI (o:AOp)(d:Option Nat)(g:Option (Opd×Bool))(k:RC):RC:=match o with
 | .p o=>match d with
  | none=>o9 (Ji g (trP o)) k
  | some j=>rcP (Ji g (trP o)) (trD (some j)) k
 | .r o=>match d with
  | none=>F9 (Eu g (trR o)) k
  | some j=>rcR (Eu g (trR o)) (trD (some j)) k
 | .a o=>match d with
  | none=>R9 (ML g (trL o)) k
  | some j=>rcL (ML g (trL o)) (trD (some j)) k
 | .e o=>match d with
  | none=>G8 (UJ g (trE o)) k
  | some j=>rcE (UJ g (trE o)) (trD (some j)) k
def lY (i:Inst):Option (Opd×List Opd):=match i.op,i.guard,i.dst with
 | .e (.defer f as),none,none=>some (f,as)
 | _,_,_=>none
noncomputable def wH (i:Inst):RC:=match lY i with
 | some p=>Jh (trO p.1) (je p.2)
 | none=>trI i.op i.dst i.guard u7
noncomputable def eH:List Inst→RC
 | []=>u7
 | [i]=>wH i
 | i::j::l=>trI i.op i.dst i.guard (eH (j::l))
def nH (f:Opd→Opd):POp→POp
 | .mov x=>.mov (f x)
 | .pick a b c=>.pick (f a) (f b) (f c)
 | .build z ps=>.build z (ps.map fun p=>(p.1,p.2.1,f p.2.2))
 | .nilCheck x=>.nilCheck (f x)
 | .ib o x y=>.ib o (f x) (f y)
 | .eq n k x y=>.eq n k (f x) (f y)
 | .not x=>.not (f x)
 | .neg x=>.neg (f x)
 | .conv k x=>.conv k (f x)
 | .mkIface t x=>.mkIface t (f x)
 | .mkFunc g a b=>.mkFunc g (a.map f) (b.map f)
 | .slStr x a b=>.slStr (f x) (a.map f) (b.map f)
 | .slArr e n x a b=>.slArr e n (f x) (a.map f) (b.map f)
 | .fAddr o x=>.fAddr o (f x)
 | .fld o s x=>.fld o s (f x)
 | .iAddr e x i=>.iAddr e (f x) (f i)
 | .iAddrArr e n x i=>.iAddrArr e n (f x) (f i)
 | .iArr e n s x i=>.iArr e n s (f x) (f i)
 | .iStr x i=>.iStr (f x) (f i)
 | .ext x i=>.ext (f x) i
 | .len x=>.len (f x)
 | .lenS x=>.lenS (f x)
 | .cap x=>.cap (f x)
 | .mm m x xs=>.mm m (f x) (xs.map f)
 | .assert t z ok x=>.assert t z ok (f x)
def IJ (f:Opd→Opd):ROp→ROp
 | .load s a=>.load s (f a)
 | .look k z o m x=>.look k z o (f m) (f x)
 | .lenM x=>.lenM (f x)
 | .bytesStr x=>.bytesStr (f x)
 | .entry x=>.entry (f x)
def KL (f:Opd→Opd):LOp→LOp
 | .alloc z=>.alloc z
 | .box x=>.box (f x)
 | .buildSlice e l z ps=>.buildSlice e l z (ps.map fun p=>(p.1,p.2.1,f p.2.2))
 | .mkMap=>.mkMap
 | .mkSlice e b z l c=>.mkSlice e b z (f l) (f c)
 | .strBytes x=>.strBytes (f x)
 | .sl e x a b=>.sl e (f x) (a.map f) (b.map f)
def CG (f:Opd→Opd):EOp→EOp
 | .store s a x=>.store s (f a) (f x)
 | .mapSet k a b c=>.mapSet k (f a) (f b) (f c)
 | .range x=>.range (f x)
 | .next x=>.next (f x)
 | .app e z zs b s x=>.app e z zs b (f s) (f x)
 | .copy e d s=>.copy e (f d) (f s)
 | .clear z x=>.clear z (f x)
 | .call g a=>.call g (a.map f)
 | .callv g a=>.callv (f g) (a.map f)
 | .defer g a=>.defer (f g) (a.map f)
 | .panic x=>.panic (f x)
 | .recover=>.recover
 | .bad=>.bad
def mapA (f:Opd→Opd):AOp→AOp
 | .p o=>.p (nH f o)
 | .r o=>.r (IJ f o)
 | .a o=>.a (KL f o)
 | .e o=>.e (CG f o)
def bump:Opd→Opd
 | .loc k=>.loc (k+1)
 | x=>x
def rn (r:List Opd):Opd→Opd
 | .loc k=>r.getD k (.con .undef)
 | x=>x
def qg (j:Nat):List Inst→Bool
 | []=>false
 | i::l=>i.dst==some j||qg j l
def jf (r:List Opd):List Inst→List Inst
 | []=>[]
 | i::l=>
  let keep:=⟨mapA (rn r) i.op,i.dst,i.guard.map fun p=>(rn r p.1,p.2)⟩::jf (.loc 0::r.map bump) l
  match i.op,i.dst,i.guard with
  | .p (.mov x),none,none=>match rn r x with
   | .slot j=>bif qg j l then keep else jf (.slot j::r) l
   | y=>jf (y::r) l
  | _,_,_=>keep
noncomputable def zN (f:o8→o8→Bool)(a:List o8):List o8→Bool:=
 List.rec (fun b=>List.rec true (fun _ _ _=>false) b) (fun x _ ih b=>List.rec false (fun y ys _=>bi (f x y) (ih ys) false) b) a
noncomputable def cK (n:Nat):o8→o8→Bool:=Nat.rec (fun _ _=>false) (fun _ ih x y=>match x,y with
  | .bool a,.bool b=>wz a b
  | .int k a,.int k' b=>bi (kEq k k') (rR a b) false
  | .str a,.str b=>strEq a b
  | .nilPtr,.nilPtr=>true
  | .ptr a b,.ptr c d=>bi (Nat.beq a c) (Nat.beq b d) false
  | .nilSlice,.nilSlice=>true
  | .slice a b c d,.slice a' b' c' d'=>bi (Nat.beq a a') (bi (Nat.beq b b') (bi (Nat.beq c c') (Nat.beq d d') false) false) false
  | .sliceU a b c d,.sliceU a' b' c' d'=>bi (Nat.beq a a') (bi (Nat.beq b b') (bi (Nat.beq c c') (Nat.beq d d') false) false) false
  | .nilMap,.nilMap=>true
  | .map a,.map b=>Nat.beq a b
  | .nilFunc,.nilFunc=>true
  | .func (.func f) a b,.func (.func g) c d=>bi (Nat.beq f g) (bi (zN ih a c) (zN ih b d) false) false
  | .func (.yield f) a b,.func (.yield g) c d=>bi (Nat.beq f g) (bi (zN ih a c) (zN ih b d) false) false
  | .nilIface,.nilIface=>true
  | .iface t a,.iface u b=>bi (Nat.beq t u) (ih a b) false
  | .agg a,.agg b=>zN ih a b
  | .tuple a,.tuple b=>zN ih a b
  | .undef,.undef=>true
  | _,_=>false) n
abbrev DC:=L8→Nat→List o8→T o8→Mem→List Mem→Option (List EM)
noncomputable def stable (f:RF)(ls:List o8)(env:T o8)(v:o8)(n:Nat):List Mem→Bool:=
 Nat.rec (fun _=>true) (fun _ ih gs=>List.rec false (fun m ms _=>bi (Option.rec false (fun u=>cK 100 u v) (f ls env m)) (ih ms) false) gs) n
noncomputable def tl (l:List Mem):List Mem:=List.rec [] (fun _ t _=>t) l
noncomputable def M0:DC:=fun _ _ _ env m _=>some [⟨env,m,none,[]⟩]
noncomputable def dcP (f:PF)(d:o8→T o8→T o8)(k:DC):DC:=fun cf b ls env m gs=>ob (f ls env) fun v=>k cf b (v::ls) (d v env) m gs
noncomputable def hd (m:Mem)(gs:List Mem):Mem:=List.rec m (fun g _ _=>g) gs
noncomputable def isVoid (b:Option Blk):Bool:=match b with
 | some .void=>true
 | _=>false
noncomputable def jy (i:Nat)(gs:List Mem):Bool:=List.rec true (fun g _ ih=>bi (isVoid (g.get i)) ih false) gs
noncomputable def MN (x:Option (List α))(f:α→Option β):Option β:=
 Option.rec none (fun l=>List.rec none (fun a t _=>List.rec (f a) (fun _ _ _=>none) t) l) x
noncomputable def dcR (f:RF)(c:Nat)(d:o8→T o8→T o8)(k:DC):DC:=fun cf b ls env m gs=>ob (f ls env (hd m gs)) fun v=>
 bi (stable f ls env v c (tl gs)) (k cf b (v::ls) (d v env) m gs) none
noncomputable def UK (m:Mem)(i:Nat)(b:Option Blk):Mem:=Option.rec m (fun b=>m.set i b) b
noncomputable def dcL (f:LF)(c:Nat)(d:o8→T o8→T o8)(k:DC):DC:=fun cf b ls env m gs=>ob (f ls env (Nat.add b c)) fun r=>
 bi (isVoid (m.get (Nat.add b c))) (bi (jy (Nat.add b c) gs) (k cf b (r.1::ls) (d r.1 env) (UK m (Nat.add b c) r.2) gs) none) none
noncomputable def dcE (f:EF)(d:o8→T o8→T o8)(k:DC):DC:=fun cf b ls env m gs=>MN (f cf ls env m) fun r=>gW r.v (fun _=>none) (k cf b (r.v::ls) (d r.v env) r.m (r.m::gs))
noncomputable def aeN (c:Nat)(o:AOp)(d:Option Nat)(g:Option (Opd×Bool))(k:DC):DC:=match o with
 | .p o=>dcP (Ji g (trP o)) (trD d) k
 | .r o=>dcR (Eu g (trR o)) c (trD d) k
 | .a o=>dcL (ML g (trL o)) c (trD d) k
 | .e o=>dcE (UJ g (trE o)) (trD d) k
noncomputable def sO:List (Nat×Inst)→DC
 | []=>M0
 | (c,i)::l=>aeN c i.op i.dst i.guard (sO l)
noncomputable def reserve (n:Nat)(m:Mem):Mem:=Nat.rec (fun m=>m) (fun _ ih m=>ih (m.new .void)) n m
structure Out where
 x:X5
 env:T o8
 m:Mem
 marks:List Mk
 pv:Option o8
abbrev SC:=L8→Nat→Option Nat→T o8→Mem→List Mk→Option (List Out)
noncomputable def rT (x:X5)(env:T o8)(m:Mem)(k:List Mk):Option (List Out):=some [⟨x,env,m,k,none⟩]
noncomputable def D6:SC:=fun _ _ _ env m k=>rT .normal env m k
noncomputable def kU (k:List Mk)(e:EM):Option (List Out):=
 Option.rec (rT .normal e.env e.m (gJ e.mks k)) (fun x=>some [⟨.ret,e.env,e.m,gJ e.mks k,some x⟩]) e.px
noncomputable def j4 (r:RC):SC:=fun cf _ _ env m k=>bnd (r cf [] env m) (kU k)
noncomputable def Ev (r:RC):SC:=fun cf _ ir env m k=>Option.rec (bnd (r cf [] env m) (kU k)) (fun _=>none) ir
def fJ:List Inst→Bool
 | []=>false
 | i::l=>(lY i).isSome||fJ l
noncomputable def I9 (n:Nat)(r:DC):SC:=fun cf _ _ env m k=>bnd (r cf m.next [] env (reserve n m) [reserve n m]) (kU k)
noncomputable def d9 (a b:SC):SC:=fun cf fuel ir env m k=>bnd (a cf fuel ir env m k) fun o=>X5.rec (b cf fuel ir o.env o.m o.marks) (fun _=>some [o]) (some [o]) o.x
noncomputable def C9 (c:OF)(a b:SC):SC:=fun cf fuel ir env m k=>lT (c [] env) fun t=>bi t (a cf fuel ir env m k) (b cf fuel ir env m k)
noncomputable def u6 (id:Nat)(a:SC):SC:=fun cf fuel ir env m k=>bnd (a cf fuel ir env m k) fun o=>
 X5.rec (some [o]) (fun id'=>bi (Nat.beq id id') (rT .normal o.env o.m o.marks) (some [o])) (some [o]) o.x
noncomputable def V9 (body:T o8→Mem→List Mk→Option (List Out))(n:Nat):T o8→Mem→List Mk→Option (List Out):=
 Nat.rec (fun _ _ _=>none) (fun _ ih env m k=>bnd (body env m k) fun o=>X5.rec (ih o.env o.m o.marks) (fun _=>some [o]) (some [o]) o.x) n
noncomputable def H6 (a:SC):SC:=fun cf fuel ir env m k=>V9 (fun env m k=>a cf fuel ir env m k) fuel env m k
noncomputable def bf (id:Nat):SC:=fun _ _ _ env m k=>rT (.exit id) env m k
noncomputable def F8:SC:=fun _ _ _ env m k=>rT .ret env m k
noncomputable def lZ (b:Option Blk)(f:LoopState→Option X5→T o8→List (Option Nat)→aV→aV→Option β):Option β:=match b with
 | some (.loop st pend env params assign body)=>f st pend env params assign body
 | _=>none
noncomputable def MO (cf:L8)(m:Mem)(args:List o8)(v:o8):rM:=MJ v fun fn a b=>match fn with
 | .func f=>cf (.func f) (gJ a (gJ args b)) m
 | _=>none
noncomputable def MP (cf:L8)(f:o8)(params:List (Option Nat))(assign body:aV)(env:T o8)(m:Mem)(k:List Mk):Option (List Out):=
 bnd (MO cf (m.new (.loop .ready none env params assign body)) [.func (.yield m.next) [] []] f) fun r=>gW r.v (fun _=>none) <|
  lZ (r.m.get m.next) fun st pend _ _ _ _=>match st with
   | .busy=>none
   | _=>match pend with
    | none=>rT .normal env (r.m.set m.next .dead) k
    | some x=>rT x env (r.m.set m.next .dead) k
noncomputable def jA (f:OF)(params:List (Option Nat))(assign body:aV):SC:=fun cf _ ir env m k=>
 Option.rec (MP cf (f [] env) params assign body env (m.new .deferred) (.c m.next::k))
  (fun l=>lZ (m.get l) fun _ _ _ _ _ _=>MP cf (f [] env) params assign body env m k) ir
noncomputable def trC:aV→SC
 | .skip=>D6
 | .reg ops=>bif fJ ops then Ev (eH ops) else j4 (eH (jf [] ops))
 | .dreg n ops=>I9 n (sO ops)
 | .seq a b=>d9 (trC a) (trC b)
 | .cond c a b=>C9 (trO c) (trC a) (trC b)
 | .block id a=>u6 id (trC a)
 | .loop a=>H6 (trC a)
 | .exit id=>bf id
 | .ret=>F8
 | .rangeFunc f params assign body=>jA (trO f) params assign body
noncomputable def aF (js:List (Option Nat)):List o8→T o8→Option (T o8):=
 List.rec (fun vs env=>List.rec (some env) (fun _ _ _=>none) vs) (fun j _ ih vs env=>List.rec none (fun v vs _=>ih vs (trD j v env)) vs) js
noncomputable def results (rs:List uI)(env:T o8)(m:Mem):Option (List o8):=
 List.rec (some []) (fun r _ ih=>ob (match r with
  | .tmp j=>T.get env j
  | .cell j size=>ob (T.get env j) fun p=>nD p fun id off=>X0 (m.get id) fun rs n rows=>match size with
   | none=>cell1 rs n rows off
   | some k=>ob (jr rs n rows off k) fun l=>some (.agg l)) fun v=>ob ih fun l=>some (v::l)) rs
noncomputable def result (l:List o8):o8:=List.rec (.tuple l) (fun v t _=>List.rec v (fun _ _ _=>.tuple l) t) l
noncomputable def UL (b:Option Blk)(k:Option β):Option β:=match b with
 | some .deferred=>k
 | _=>none
abbrev jg:=FuncId→List o8→Option o8→Mem→Option (List (Mem×Option o8))
noncomputable def KM (dcf:jg)(v:o8)(args:List o8)(md:Option o8)(m:Mem):Option (List (Mem×Option o8)):=MJ v fun fn a b=>match fn with
 | .func f=>dcf f (gJ a (gJ args b)) md m
 | _=>none
noncomputable def wI (dcf:jg)(fin:Option o8→Mem→rM):List Mk→Option o8→Mem→rM:=
 List.rec (fun md m=>fin md m) (fun x _ ih md m=>match x with
  | .c id=>UL (m.get id) (ih md (m.set id .dead))
  | .d v args=>bnd (KM dcf v args md m) fun r=>ih r.2 r.1)
noncomputable def sP (rs:List uI)(env:T o8)(md:Option o8)(m:Mem):rM:=
 Option.rec (ob (results rs env m) fun l=>one (result l) m) (fun x=>one (.pan x) m) md
noncomputable def leave (dcf:jg)(rs:List uI)(o:Out):rM:=X5.rec (wI dcf (sP rs o.env) o.marks none o.m) (fun _=>none) (wI dcf (sP rs o.env) o.marks o.pv o.m) o.x
noncomputable def roundEnd (l:Nat)(o:Out):rM:=match o.marks,o.pv with
 | _ :: _,_=>none
 | _,some _=>none
 | [],none=>lZ (o.m.get l) fun st pend env params assign body=>match st,pend with
  | .busy,none=>match o.x with
   | .normal=>one (.bool true) (o.m.set l (.loop .ready none env params assign body))
   | x=>one (.bool false) (o.m.set l (.loop .done (some x) env params assign body))
  | _,_=>none
mutual
noncomputable def IK (lo:Nat):o8→List Nat
 | .ptr i _ | .slice i _ _ _ | .sliceU i _ _ _ | .map i=>bi (Nat.ble lo i) [i] []
 | .func _ a b=>IL lo a++IL lo b
 | .iface _ v=>IK lo v
 | .agg l=>IL lo l
 | .tuple l=>IL lo l
 | _=>[]
noncomputable def IL (lo:Nat):List o8→List Nat
 | []=>[]
 | v::l=>IK lo v++IL lo l
end
inductive NB where
 | cells (rs:Nat) (rows:List (List o8))
 | map (es:List (o8×o8))
 | tail (p:Nat)
 | dead
 deriving Inhabited
noncomputable def DZ (b:Blk):Option NB:=match b with
 | .cells rs n rows=>ob (rows.slice n 0) fun l=>some (.cells rs l)
 | .map es=>some (.map es)
 | .tail p=>some (.tail p)
 | .dead=>some .dead
 | _=>none
noncomputable def Ew (lo:Nat):List (List o8)→List Nat
 | []=>[]
 | l::ls=>IL lo l++Ew lo ls
noncomputable def UM (lo:Nat):List (o8×o8)→List Nat
 | []=>[]
 | e::es=>IK lo e.1++(IK lo e.2++UM lo es)
noncomputable def adP (lo:Nat):NB→List Nat
 | .cells _ rows=>Ew lo rows
 | .map es=>UM lo es
 | .tail p=>bi (Nat.ble lo p) [p] []
 | .dead=>[]
noncomputable def Ey (n:Nat)(l:List (Nat×NB)):Bool:=List.rec false (fun x _ ih=>bi (Nat.beq x.1 n) true ih) l
noncomputable def reach (m:Mem)(lo n:Nat):List Nat→List (Nat×NB)→Option (List (Nat×NB)):=
 Nat.rec (fun _ _=>none) (fun _ ih work seen=>List.rec (some seen.reverse) (fun w ws _=>
  bi (Ey w seen) (ih ws seen) (ob (m.get w) fun b=>ob (DZ b) fun nb=>ih (adP lo nb++ws) ((w,nb)::seen))) work) n
noncomputable def placeOf (i:Nat)(l:List Nat):Nat→Option Nat:=List.rec (fun _=>none) (fun x _ ih k=>bi (Nat.beq x i) (some k) (ih (Nat.succ k))) l
mutual
noncomputable def jl (r:Nat→Option Nat):o8→Option o8
 | .ptr i o=>ob (r i) fun j=>some (.ptr j o)
 | .slice i o l c=>ob (r i) fun j=>some (.slice j o l c)
 | .sliceU i o l c=>ob (r i) fun j=>some (.sliceU j o l c)
 | .map i=>ob (r i) fun j=>some (.map j)
 | .func fn a b=>match fn with
  | .yield _=>none
  | fn=>ob (rO r a) fun x=>ob (rO r b) fun y=>some (.func fn x y)
 | .iface t v=>ob (jl r v) fun x=>some (.iface t x)
 | .agg l=>ob (rO r l) fun x=>some (.agg x)
 | .tuple l=>ob (rO r l) fun x=>some (.tuple x)
 | .pan _=>none
 | v=>some v
noncomputable def rO (r:Nat→Option Nat):List o8→Option (List o8)
 | []=>some []
 | v::l=>ob (jl r v) fun x=>ob (rO r l) fun y=>some (x::y)
end
noncomputable def pF (r:Nat→Option Nat):List (List o8)→Option (List (List o8))
 | []=>some []
 | l::ls=>ob (rO r l) fun x=>ob (pF r ls) fun y=>some (x::y)
noncomputable def Ea (r:Nat→Option Nat):List (o8×o8)→Option (List (o8×o8))
 | []=>some []
 | e::es=>ob (jl r e.1) fun x=>ob (jl r e.2) fun y=>ob (Ea r es) fun z=>some ((x,y)::z)
noncomputable def rP (r:Nat→Option Nat):NB→Option NB
 | .cells rs rows=>ob (pF r rows) fun x=>some (.cells rs x)
 | .map es=>ob (Ea r es) fun x=>some (.map x)
 | .tail p=>ob (r p) fun q=>some (.tail q)
 | .dead=>some .dead
noncomputable def wJ (r:Nat→Option Nat):List NB→Option (List NB)
 | []=>some []
 | p::l=>ob (rP r p) fun x=>ob (wJ r l) fun y=>some (x::y)
structure CO where
 ids:List Nat
 vs:List o8
 bs:List NB
noncomputable def Ez (lo:Nat)(ids:List Nat)(i:Nat):Option Nat:=bi (Nat.ble lo i) (placeOf i ids lo) (some i)
noncomputable def qh (lo:Nat)(vs:List o8)(m:Mem):Option CO:=
 ob (reach m lo 100000 (IL lo vs) []) fun seen=>
  ob (rO (Ez lo (seen.map (·.1))) vs) fun xs=>ob (wJ (Ez lo (seen.map (·.1))) (seen.map (·.2))) fun bs=>some ⟨seen.map (·.1),xs,bs⟩
noncomputable def iB:NB→Blk
 | .cells rs rows=>.cells rs (len' rows) (T.ofList rows)
 | .map es=>.map es
 | .tail p=>.tail p
 | .dead=>.dead
noncomputable def layAll (bs:List NB):Mem→Mem:=List.rec (fun m=>m) (fun b _ ih m=>ih (m.new (iB b))) bs
noncomputable def sQ:List (List o8)→List (List o8)→Bool
 | [],[]=>true
 | a::x,b::y=>bi (zN (cK 100) a b) (sQ x y) false
 | _,_=>false
noncomputable def CJ:List (o8×o8)→List (o8×o8)→Bool
 | [],[]=>true
 | a::x,b::y=>bi (cK 100 a.1 b.1) (bi (cK 100 a.2 b.2) (CJ x y) false) false
 | _,_=>false
noncomputable def Z5:NB→NB→Bool
 | .cells r a,.cells s b=>bi (Nat.beq r s) (sQ a b) false
 | .map a,.map b=>CJ a b
 | .tail p,.tail q=>Nat.beq p q
 | .dead,.dead=>true
 | _,_=>false
noncomputable def iC:List NB→List NB→Bool
 | [],[]=>true
 | a::x,b::y=>bi (Z5 a b) (iC x y) false
 | _,_=>false
structure Ans where
 v:o8
 bs:List NB
noncomputable def MQ (lo:Nat)(r:VM):Option Ans:=ob (qh lo [r.v] r.m) fun c=>List.rec none (fun v _ _=>some ⟨v,c.bs⟩) c.vs
noncomputable def Bz (lo:Nat)(l:List VM):Option Ans:=
 List.rec none (fun r rs ih=>ob (MQ lo r) fun a=>List.rec (some a) (fun _ _ _=>ob ih fun b=>bi (cK 100 a.v b.v) (bi (iC a.bs b.bs) (some a) none) none) rs) l
structure SFn where
 pure:Bool
 args:List (Option Nat)
 nslots:Nat
 results:List uI
 code:SC
 rcode:Option aV
structure Known where
 fns:FuncId→Option SFn
 base:Mem
 sum:FuncId→List o8→List NB→Option Ans
noncomputable def F3 (cf:L8)(dcf:jg)(fuel:Nat)(f:SFn)(args:List o8)(m:Mem):rM:=
 ob (aF f.args args (T.rep .undef f.nslots .e 0)) fun env=>bnd (f.code cf fuel none env m []) (leave dcf f.results)
structure aeO where
 o:Out
 md:Option o8
def isRec (i:Inst):Bool:=match i.op,i.guard with
 | .e .recover,none=>true
 | _,_=>false
def EA:List Inst→Bool
 | []=>false
 | i::l=>isRec i||EA l
noncomputable def zO:List Inst→L8→List o8→T o8→Mem→Option o8→Option (List (EM×Option o8))
 | [],_,_,env,m,md=>some [(⟨env,m,none,[]⟩,md)]
 | i::l,cf,ls,env,m,md=>match isRec i with
  | true=>match md with
   | some x=>zO l cf (x::ls) (trD i.dst x env) m none
   | none=>zO l cf (.nilIface::ls) (trD i.dst .nilIface env) m none
  | false=>match i.op with
   | .p o=>ob (Ji i.guard (trP o) ls env) fun v=>zO l cf (v::ls) (trD i.dst v env) m md
   | .r o=>ob (Eu i.guard (trR o) ls env m) fun v=>zO l cf (v::ls) (trD i.dst v env) m md
   | _=>none
noncomputable def dEv:aV→L8→Nat→T o8→Mem→Option o8→Option (List aeO)
 | .seq a b,cf,fuel,env,m,md=>bnd (dEv a cf fuel env m md) fun r=>match r.o.x with
  | .normal=>match r.o.marks with
   | []=>dEv b cf fuel r.o.env r.o.m r.md
   | _=>none
  | _=>some [r]
 | .cond c a b,cf,fuel,env,m,md=>lT (trO c [] env) fun t=>bi t (dEv a cf fuel env m md) (dEv b cf fuel env m md)
 | .reg ops,cf,fuel,env,m,md=>match EA ops with
  | true=>bnd (zO ops cf [] env m md) fun r=>some [⟨⟨.normal,r.1.env,r.1.m,[],none⟩,r.2⟩]
  | false=>bnd (trC (.reg ops) cf fuel none env m []) fun o=>some [⟨o,md⟩]
 | c,cf,fuel,env,m,md=>bnd (trC c cf fuel none env m []) fun o=>some [⟨o,md⟩]
noncomputable def KN (rs:List uI)(r:aeO):Option (List (Mem×Option o8)):=match r.o.x,r.o.marks,r.o.pv with
 | .exit _,_,_=>none
 | _,[],none=>ob (results rs r.o.env r.o.m) fun _=>some [(r.o.m,r.md)]
 | _,_,_=>none
noncomputable def aw9 (cf:L8)(fuel:Nat)(f:SFn)(args:List o8)(md:Option o8)(m:Mem):Option (List (Mem×Option o8)):=
 ob f.rcode fun c=>ob (aF f.args args (T.rep .undef f.nslots .e 0)) fun env=>bnd (dEv c cf fuel env m md) (KN f.results)
noncomputable def Mem.shut (m:Mem):Mem:=⟨m.t,m.next,m.next⟩
noncomputable def EB (K:Known)(cf:L8)(fuel:Nat):jg:=fun f args md m=>ob (K.fns f) fun sf=>aw9 cf fuel sf args md m
noncomputable def EC (K:Known)(cf:L8)(fuel:Nat)(f:FuncId)(sf:SFn)(args:List o8)(bs:List NB):Option Ans:=
 Option.rec (ob (F3 cf (EB K cf fuel) fuel sf args (layAll bs K.base).shut) fun l=>Bz (layAll bs K.base).next l) (fun a=>some a) (K.sum f args bs)
noncomputable def oo (g:Nat)(ids:List Nat)(next i:Nat):Option Nat:=
 bi (Nat.blt i g) (some i) (bi (Nat.blt (Nat.sub i g) (len' ids)) (vX (Nat.sub i g) ids) (some (Nat.add next (Nat.sub (Nat.sub i g) (len' ids)))))
noncomputable def uK (K:Known)(cf:L8)(fuel:Nat)(f:FuncId)(sf:SFn)(args:List o8)(m:Mem):rM:=
 ob (qh K.base.next args m) fun c=>ob (EC K cf fuel f sf c.vs c.bs) fun a=>
  ob (jl (oo K.base.next c.ids m.next) a.v) fun v=>ob (wJ (oo K.base.next c.ids m.next) a.bs) fun bs=>one v (layAll bs m)
noncomputable def zR (cf:L8)(fuel l:Nat)(args:List o8)(m:Mem):rM:=
 bi (Nat.blt l m.lim) none (lZ (m.get l) fun st pend env params assign body=>match st,pend with
  | .ready,none=>ob (aF params args env) fun env1=>bnd (trC assign cf fuel (some l) env1 m []) fun o=>match o.x,o.marks with
   | .normal,[]=>lZ (o.m.get l) fun st2 pend2 env2 params2 assign2 body2=>match st2,pend2 with
    | .ready,none=>bnd (trC body cf fuel (some l) o.env (o.m.set l (.loop .busy none env2 params2 assign2 body2)) []) (roundEnd l)
    | _,_=>none
   | _,_=>none
  | _,_=>none)
noncomputable def G9 (K:Known)(fuel n:Nat):L8:=
 Nat.rec (fun _ _ _=>none) (fun _ ih fn args m=>match fn with
  | .func f=>ob (K.fns f) fun sf=>bi sf.pure (uK K ih fuel f sf args m) (F3 ih (EB K ih fuel) fuel sf args m)
  | .yield l=>zR ih fuel l args m
  | _=>none) n
end Go.AM
namespace Go.AM
open Go
mutual
def ofValue:Value→Option o8
 | .bool b=>some (.bool b)
 | .int k n=>some (.int k n)
 | .string s=>some (.str s.data.toList)
 | .pointer none=>some .nilPtr
 | .slice none 0 0=>some .nilSlice
 | .map none=>some .nilMap
 | .func (.func f) ⟨[]⟩ ⟨[]⟩=>some (.func (.func f) [] [])
 | .nilFunc=>some .nilFunc
 | .nilIface=>some .nilIface
 | .agg ⟨l⟩=>match ofValues l with
  | some x=>some (.agg x)
  | none=>none
 | .tuple ⟨[]⟩=>some (.tuple [])
 | _=>none
def ofValues:List Value→Option (List o8)
 | []=>some []
 | v::l=>match ofValue v,ofValues l with
  | some x,some y=>some (x::y)
  | _,_=>none
end
section
variable (P:Program)
def gG (t:TypeId):Option Nat:=(P.info? t).map (·.size)
def dV (t:TypeId):Option Nat:=(P.info? t).map (·.bytes)
def zP (t:TypeId):Option Bool:=match P.underlying t with
 | some (.struct _) | some (.array _ _)=>some true
 | some _=>some false
 | none=>none
def partT (t:TypeId):Option (Option Nat):=match zP P t,gG P t with
 | some true,some n=>some (some n)
 | some false,some _=>some none
 | _,_=>none
def nI (t:TypeId):Option (List o8):=match (P.info? t).bind (·.zero) with
 | some z=>match ofValue z with
  | some a=>some a.cells
  | none=>none
 | none=>none
def zeroV (t:TypeId):Option o8:=match (P.info? t).bind (·.zero) with
 | some z=>ofValue z
 | none=>none
def jB (f:TypeId→Option (List PK)):List Field→Nat→Option (List PK)
 | [],_=>some []
 | fd::l,off=>if fd.name≠ "_"∧fd.offset=off then match f fd.type with
   | some ks=>match jB f l (off+ks.length) with
    | some r=>some (ks++r)
    | none=>none
   | none=>none
  else none
def cO:Nat→TypeId→Option (List PK)
 | 0,_=>none
 | d+1,t=>match P.underlying t with
  | some .bool=>if gG P t=some 1 then some [.b] else none
  | some (.int _)=>if gG P t=some 1 then some [.i] else none
  | some .string=>if gG P t=some 1 then some [.s] else none
  | some (.struct fs)=>match jB (cO d) fs.toList 0 with
   | some ks=>if P.stoodInHeld t=false∧gG P t=some ks.length then some ks else none
   | none=>none
  | _=>none
def eqT (cst:Bool)(t:TypeId):Option EqK:=match P.underlying t with
 | some .bool=>some (.prim .b)
 | some (.int _)=>some (.prim .i)
 | some .string=>some (.prim .s)
 | some (.struct _)=>match cO P 10 t with
  | some k=>if P.eqGuardType P.depth t=false then some (.flat k) else none
  | none=>none
 | some (.pointer _)=>some .ptr
 | some (.slice _)=>some .slice
 | some (.map _ _)=>some .map
 | some (.func ..)=>some .func
 | some (.interface _)=>if cst then some .iface else none
 | _=>none
def adQ (t:TypeId):Option EqK:=match P.underlying t with
 | some (.array n e)=>match P.underlying e with
  | some (.int _)=>if gG P e=some 1∧P.eqGuardType P.depth t=false then some (.flat (List.replicate n .i)) else none
  | _=>none
 | _=>none
def UN (cst:Bool)(t:TypeId):Option EqK:=match eqT P cst t with
 | some k=>some k
 | none=>adQ P t
def KO (t:TypeId):Option (List o8):=match nI P t,gG P t with
 | some z,some k=>if z.length=k then some z else none
 | _,_=>none
def BA (t:TypeId):Option EqK:=match eqT P false t with
 | some (.prim j)=>some (.prim j)
 | some (.flat ks)=>some (.flat ks)
 | _=>none
end
def idxOf (t:Nat):List Nat→Nat→Option Nat
 | [],_=>none
 | x::l,i=>bif Nat.beq x t then some i else idxOf t l (i+1)
def fK (t:Nat):List (Option Nat)→Nat→Option Nat
 | [],_=>none
 | some x::l,i=>bif Nat.beq x t then some i else fK t l (i+1)
 | none::l,i=>fK t l (i+1)
section
variable (P:Program)(slots:List Nat)(done:List (Option Nat))
def ak:Operand→Option Opd
 | .tmp t=>match fK t done 0 with
  | some k=>some (.loc k)
  | none=>match idxOf t slots 0 with
   | some j=>some (.slot j)
   | none=>none
 | .const v=>match ofValue v with
  | some a=>some (.con a)
  | none=>none
 | .global g=>if g<P.globals.size then some (.con (.ptr g 0)) else none
 | .func f=>some (.con (.func (.func f) [] []))
def iD:List Operand→Option (List Opd)
 | []=>some []
 | x::l=>match ak P slots done x,iD l with
  | some a,some b=>some (a::b)
  | _,_=>none
def cOpt:Option Operand→Option (Option Opd)
 | none=>some none
 | some x=>match ak P slots done x with
  | some a=>some (some a)
  | none=>none
def rU:Operand→Bool
 | .const _=>true
 | _=>false
def ow (place:Nat→Option (Nat×Nat)):List (Nat×Operand)→Option (List (Nat×Nat×Opd))
 | []=>some []
 | p::l=>match place p.1,ak P slots done p.2,ow place l with
  | some (o,s),some x,some r=>some ((o,s,x)::r)
  | _,_,_=>none
def placesOf:List Field→Option (List (Nat×Nat))
 | []=>some []
 | f::l=>match gG P f.type,placesOf l with
  | some s,some r=>some ((f.offset,s)::r)
  | _,_=>none
def qj (t:TypeId)(parts:List (Nat×Operand)):Option AOp:=
 match nI P t,P.underlying t with
 | some zero,some (.struct fields)=>match placesOf P fields.toList with
  | some pl=>match ow P slots done (fun i=>pl[i]?) parts with
   | some ps=>some (.p (.build zero ps))
   | none=>none
  | none=>none
 | some zero,some (.array _ elem)=>match gG P elem with
  | some s=>match ow P slots done (fun i=>some (i*s,s)) parts with
   | some ps=>some (.p (.build zero ps))
   | none=>none
  | none=>none
 | _,_=>none
def mg (b:Builtin)(ts:List TypeId)(args:List Operand):Option AOp:=do
 match b,ts,args with
 | .len,[t],[x]=>match ← P.underlying t with
  | .string=>do pure (.p (.lenS (← ak P slots done x)))
  | .slice _=>do pure (.p (.len (← ak P slots done x)))
  | .array n _=>pure (.p (.mov (.con (.int .i64 n))))
  | .map _ _=>do pure (.r (.lenM (← ak P slots done x)))
  | _=>none
 | .cap,[t],[x]=>match ← P.underlying t with
  | .slice _=>do pure (.p (.cap (← ak P slots done x)))
  | _=>none
 | .append,[t,u],[s,x]=>match ← P.underlying t with
  | .slice e=>do
   let d ← P.underlying u
   let zs:=match d with | .int _=>true | _=>false
   pure (.e (.app (← gG P e) zs (← KO P e) (← dV P e) (← ak P slots done s) (← ak P slots done x)))
  | _=>none
 | .copy,[t,_],[d,s]=>match ← P.underlying t with
  | .slice e=>do pure (.e (.copy (← gG P e) (← ak P slots done d) (← ak P slots done s)))
  | _=>none
 | .clear,[t],[x]=>match ← P.underlying t with
  | .slice e=>do pure (.e (.clear (← nI P e) (← ak P slots done x)))
  | _=>none
 | .max,_,x::xs=>do pure (.p (.mm true (← ak P slots done x) (← iD P slots done xs)))
 | .min,_,x::xs=>do pure (.p (.mm false (← ak P slots done x) (← iD P slots done xs)))
 | .recover,[],[]=>pure (.e .recover)
 | _,_,_=>none
def cOp (o:Op):Option AOp:=do
 let r:=ak P slots done
 match o with
 | .move x | .assign x=>pure (.p (.mov (← r x)))
 | .pick c a b=>pure (.p (.pick (← r c) (← r a) (← r b)))
 | .alloc t=>pure (.a (.alloc (← nI P t)))
 | .box _ x=>pure (.a (.box (← r x)))
 | .build t parts=>qj P slots done t parts.toList
 | .buildSlice t len parts=>match ← P.underlying t with
  | .slice e=>do
   let es ← gG P e
   let ps ← ow P slots done (fun i=>some (i*es,es)) parts.toList
   if len*es≤16777216 then pure (.a (.buildSlice es len (← nI P e) ps)) else none
  | _=>none
 | .load t a=>pure (.r (.load (← partT P t) (← r a)))
 | .store t a x=>pure (.e (.store (← gG P t) (← r a) (← r x)))
 | .nilCheck x=>pure (.p (.nilCheck (← r x)))
 | .binOp op t x y _=>match op with
  | .eql | .neq=>do
   let k ← UN P (rU x||rU y) t
   let neg:=match op with | .neq=>true | _=>false
   match k with
   | .prim .i=>pure (.p (.ib op (← r x) (← r y)))
   | .prim .s=>pure (.p (.ib op (← r x) (← r y)))
   | k=>pure (.p (.eq neg k (← r x) (← r y)))
  | _=>pure (.p (.ib op (← r x) (← r y)))
 | .unOp op _ x=>match op with
  | .not=>do pure (.p (.not (← r x)))
  | .neg=>do pure (.p (.neg (← r x)))
  | _=>none
 | .convert s d x=>match ← P.underlying s,← P.underlying d with
  | .int _,.int k=>do pure (.p (.conv k (← r x)))
  | .string,.slice e=>match ← P.underlying e with
   | .int .u8=>do pure (.a (.strBytes (← r x)))
   | _=>none
  | .slice e,.string=>match ← P.underlying e with
   | .int .u8=>do pure (.r (.bytesStr (← r x)))
   | _=>none
  | _,_=>none
 | .makeInterface t x=>match ← P.underlying t with
  | .interface _=>none
  | _=>do pure (.p (.mkIface t (← r x)))
 | .makeFunc fn a b=>match fn with
  | .func f=>do pure (.p (.mkFunc (.func f) (← iD P slots done a.toList) (← iD P slots done b.toList)))
  | _=>none
 | .makeMap t res=>match res with
  | none=>pure (.a .mkMap)
  | some (.const (.int _ _))=>match P.underlying t with
   | some (.map _ _)=>pure (.a .mkMap)
   | _=>none
  | _=>none
 | .makeSlice t l c=>match ← P.underlying t with
  | .slice e=>do pure (.a (.mkSlice (← gG P e) (← dV P e) (← KO P e) (← r l) (← r c)))
  | _=>none
 | .slice t x lo hi none=>match ← P.underlying t with
  | .string=>do pure (.p (.slStr (← r x) (← cOpt P slots done lo) (← cOpt P slots done hi)))
  | .slice e=>do pure (.a (.sl (← gG P e) (← r x) (← cOpt P slots done lo) (← cOpt P slots done hi)))
  | .array n e=>do pure (.p (.slArr (← gG P e) n (← r x) (← cOpt P slots done lo) (← cOpt P slots done hi)))
  | _=>none
 | .fieldAddr s x f=>match ← P.underlying s with
  | .struct fs=>do
   let fd ← fs[f]?
   let sz ← gG P fd.type
   if sz=0 then none else pure (.p (.fAddr fd.offset (← r x)))
  | _=>none
 | .field s x f=>match ← P.underlying s with
  | .struct fs=>do
   let fd ← fs[f]?
   pure (.p (.fld fd.offset (← partT P fd.type) (← r x)))
  | _=>none
 | .indexAddr t x i=>match ← P.underlying t with
  | .slice e=>do pure (.p (.iAddr (← gG P e) (← r x) (← r i)))
  | .array n e=>do pure (.p (.iAddrArr (← gG P e) n (← r x) (← r i)))
  | _=>none
 | .index t x i=>match ← P.underlying t with
  | .string=>do pure (.p (.iStr (← r x) (← r i)))
  | .array n e=>do pure (.p (.iArr (← gG P e) n (← partT P e) (← r x) (← r i)))
  | _=>none
 | .lookup t x k ok=>match ← P.underlying t with
  | .map kt e=>do pure (.r (.look (← BA P kt) (← zeroV P e) ok (← r x) (← r k)))
  | _=>none
 | .mapUpdate t m k x | .insert t m k x=>match ← P.underlying t with
  | .map kt _=>do pure (.e (.mapSet (← BA P kt) (← r m) (← r k) (← r x)))
  | _=>none
 | .range t x=>match ← P.underlying t with
  | .map _ _=>do pure (.e (.range (← r x)))
  | _=>none
 | .next it false=>pure (.e (.next (← r it)))
 | .entry it=>pure (.r (.entry (← r it)))
 | .extract x i=>pure (.p (.ext (← r x) i))
 | .typeAssert x _ t ok=>match ← P.underlying t with
  | .interface _=>none
  | _=>do pure (.p (.assert t (← zeroV P t) ok (← r x)))
 | .panic x=>pure (.e (.panic (← r x)))
 | .defer c=>match c.callee with
  | .value f=>do pure (.e (.defer (← r f) (← iD P slots done c.args.toList)))
  | _=>none
 | .call c=>match c.callee with
  | .builtin b=>mg P slots done b c.argTypes.toList c.args.toList
  | .value (.func f)=>do
   let fn ← P.funcs[f]?
   if fn.body.isSome&&fn.name != "runtime.NumGoroutine" then pure (.e (.call f (← iD P slots done c.args.toList))) else none
  | .value f=>do pure (.e (.callv (← r f) (← iD P slots done c.args.toList)))
  | _=>none
 | _=>none
def KP:Option Tmp→Option Nat
 | none=>none
 | some t=>idxOf t slots 0
def rQ (o:Op):AOp:=match cOp P slots done o with
 | some a=>a
 | none=>.e .bad
def ED (ops:Array Oper)(i:Nat):Option (Inst×Option Nat):=do
 let o ← ops[i]?
 let a:=rQ P slots done o.op
 let g ← match o.guard with
  | none=>pure none
  | some (j,w)=>do
   let og ← ops[j]?
   let d ← og.dst
   let k ← fK d done 0
   pure (some (Opd.loc k,w))
 pure (⟨a,KP slots o.dst,g⟩,o.dst)
end
def jh (P:Program)(slots:List Nat)(ops:Array Oper):List (Option Nat)→List Nat→Option (List Inst)
 | _,[]=>some []
 | done,i::rest=>match ED P slots done ops i with
  | some (x,d)=>match jh P slots ops (d::done) rest with
   | some l=>some (x::l)
   | none=>none
  | none=>none
def bitsOf (e:Array Edge)(acc:List Nat):Nat:=
 e.toList.foldl (fun s x=>if Region.binds .any x then s ||| (1 <<< x.on) ||| (acc.getD x.on 0) else s) 0
def masks (ops:List Oper):List Nat:=ops.foldl (fun acc o=>acc ++ [bitsOf o.after acc]) []
def mOf (ms:List Nat)(i j:Nat):Bool:=Nat.testBit (ms.getD i 0) j
def aeP:Op→Bool
 | .store .. | .mapUpdate .. | .insert .. | .range .. | .next .. | .mapEntry .. | .entryStore .. | .panic _ | .defer _ | .typeAssert ..=>true
 | .call {callee:=.builtin b,..}=>match b with
  | .append | .copy | .clear | .delete=>true
  | _=>false
 | .call _=>true
 | _=>false
def Jj (ops:Array Oper)(i:Nat):Bool:=
 match ops[i]? with
 | some o=>aeP o.op
 | none=>false
def canon (eff:Nat→Bool)(ms:List Nat)(n:Nat):List Nat:=
 let effs:=(List.range n).filter eff
 let step (acc:List Nat) (e:Nat):List Nat:=acc++(List.range n).filter (fun i=>!acc.contains i&&mOf ms e i) ++ [e]
 let acc:=effs.foldl (fun acc e=>if acc.contains e then acc else step acc e) []
 acc++(List.range n).filter (fun i=>!acc.contains i)
def isE (x:Inst):Bool:=match x.op with
 | .e _=>true
 | _=>false
def isA (x:Inst):Bool:=match x.op with
 | .a _=>true
 | _=>false
def isR (x:Inst):Bool:=match x.op with
 | .r _=>true
 | _=>false
def aeQ (ms:List Nat)(i:Nat)(x:Inst)(effs:List Nat)(nal:Nat):Nat:=
 if isR x then (effs.takeWhile fun e=>!mOf ms i e).length else nal
def numbered (ms:List Nat):List (Nat×Inst)→List Nat→Nat→List (Nat×Inst)
 | [],_,_=>[]
 | (i,x)::rest,effs,nal=>(aeQ ms i x effs nal,x)::numbered ms rest (if isE x then i::effs else effs) (if isA x then nal+1 else nal)
def sS (ops:Array Oper)(o:Oper):List Nat:=
 (o.op.operands.toList.filterMap fun | .tmp t=>some t | _=>none) ++
 (match o.guard with
  | some (g,_)=>((ops[g]?).bind (·.dst)).toList
  | none=>[])
def EG:List Nat→Bool
 | []=>true
 | x::l=>!l.contains x&&EG l
def EH:List Inst→Nat
 | []=>0
 | x::l=>(if isA x then 1 else 0)+EH l
def Jk (ms:List Nat)(i:Nat)(before:List (Nat×Inst)):Opd→Bool
 | .loc k=>match before[k]? with
  | some y=>mOf ms i y.1
  | none=>false
 | .slot j=>before.all fun y=>y.2.dst != some j
 | .con _=>true
def oz (ms:List Nat)(ops:Array Oper)(i:Nat)(x:Inst)(before:List (Nat×Inst)):Bool:=
 (match x.op with
  | .e _=>before.all fun y=>mOf ms i y.1
  | _=>true) &&
 (match ops[i]? with
  | some o=>(o.after.toList.all fun e=>!Region.binds .any e||before.any fun y=>y.1==e.on) &&
   ((sS ops o).all fun t=>(List.range ops.size).all fun q=>q==i||(match ops[q]? with
    | some oq=>oq.dst != some t
    | none=>true)||mOf ms i q||mOf ms q i)
  | none=>false) &&
 ((TV x.op).all fun y=>Jk ms i before y) &&
 (match x.guard with
  | some (y,_)=>Jk ms i before y
  | none=>true)
def mh (ms:List Nat)(ops:Array Oper):List (Nat×Inst)→List (Nat×Inst)→Bool
 | [],_=>true
 | y::rest,before=>oz ms ops y.1 y.2 before&&mh ms ops rest (y::before)
def KQ (ms:List Nat)(ops:Array Oper)(ord:List Nat)(insts:List Inst):Bool:=
 EG ord&&(ord.all fun i=>Nat.blt i ops.size)&&((List.range ops.size).all fun i=>ord.contains i)&&EG (ops.toList.filterMap (·.dst))&&mh ms ops (ord.zip insts) []
def CK (P:Program)(slots:List Nat)(ops:Array Oper):Option aV:=
 match jh P slots ops [] (canon (Jj ops) (masks ops.toList) ops.size) with
 | none=>none
 | some insts=>
  if KQ (masks ops.toList) ops (canon (Jj ops) (masks ops.toList) ops.size) insts then
   some (.dreg (EH insts) (numbered (masks ops.toList) ((canon (Jj ops) (masks ops.toList) ops.size).zip insts) [] 0))
  else none
def X6 (P:Program)(slots:List Nat):Code→Option aV
 | .skip=>some .skip
 | .region _ ops false=>match jh P slots ops [] (List.range ops.size) with
  | some l=>some (.reg l)
  | none=>none
 | .region _ ops true=>CK P slots ops
 | .seq a b=>match X6 P slots a,X6 P slots b with
  | some x,some y=>some (.seq x y)
  | _,_=>none
 | .cond c a b=>match ak P slots [] c,X6 P slots a,X6 P slots b with
  | some z,some x,some y=>some (.cond z x y)
  | _,_,_=>none
 | .block id a=>match X6 P slots a with
  | some x=>some (.block id x)
  | none=>none
 | .loop a=>match X6 P slots a with
  | some x=>some (.loop x)
  | none=>none
 | .exit id=>some (.exit id)
 | .ret=>some .ret
 | .rangeFunc f ps a b=>match ak P slots [] f,X6 P slots a,X6 P slots b with
  | some z,some x,some y=>some (.rangeFunc z (ps.toList.map fun t=>idxOf t slots 0) x y)
  | _,_,_=>none
 | _=>none
def tmpsIn (nt:Nat):Code→Bool
 | .region _ ops _=>ops.toList.all fun o=>match o.dst with
  | some t=>Nat.blt t nt
  | none=>true
 | .seq a b=>tmpsIn nt a&&tmpsIn nt b
 | .cond _ a b=>tmpsIn nt a&&tmpsIn nt b
 | .block _ a=>tmpsIn nt a
 | .loop a=>tmpsIn nt a
 | .rangeFunc _ _ a b=>tmpsIn nt a&&tmpsIn nt b
 | _=>true
def EI (P:Program)(slots:List Nat):List ResultVar→Option (List uI)
 | []=>some []
 | .tmp t::l=>match idxOf t slots 0,EI P slots l with
  | some j,some r=>some (.tmp j::r)
  | _,_=>none
 | .cell t ty::l=>match idxOf t slots 0,partT P ty,EI P slots l with
  | some j,some s,some r=>some (.cell j s::r)
  | _,_,_=>none
def cFn (P:Program)(slots:List Nat)(f:FuncId):Option AFn:=
 match P.funcs[f]? with
 | none=>none
 | some fn=>match fn.body with
  | none=>none
  | some c=>match X6 P slots c,EI P slots fn.results.toList with
   | some b,some r=>
    if tmpsIn fn.ntmps c&&(slots.all fun t=>Nat.blt t fn.ntmps)&&Nat.blt slots.length 1152921504606846976&&fn.name != "runtime.NumGoroutine" then
     some ⟨fn.params.size+fn.nfree,(List.range (fn.params.size+fn.nfree)).map fun t=>idxOf t slots 0,slots.length,r,b⟩
    else none
   | _,_=>none
end Go.AM
namespace Go.AM
open Go
section
variable {α β γ:Type}
@[simp] theorem O3 (a:α)(k:α→Option β):ob (some a) k=k a:=rfl
@[simp] theorem aeR (k:α→Option β):ob none k=none:=rfl
theorem J7 {o:Option α}{k:α→Option β}{b:β}(h:ob o k=some b):∃a,o=some a∧k a=some b:=by
 cases o with
 | none=>simp at h
 | some a=>exact⟨a,rfl,h⟩
@[simp] theorem ay (x y:α):bi true x y=x:=rfl
@[simp] theorem Y8 (x y:α):bi false x y=y:=rfl
theorem K8 {b:Bool}{x:Option α}{a:α}(h:bi b x none=some a):b=true∧x=some a:=by
 cases b with
 | true=>exact⟨rfl,h⟩
 | false=>simp at h
theorem ql {b:Bool}{x:Option α}{a:α}(h:bi b none x=some a):b=false∧x=some a:=by
 cases b with
 | true=>simp at h
 | false=>exact⟨rfl,h⟩
end
namespace T
variable {α:Type}
@[simp] theorem awc (i:Nat):(T.e:T α).get i=none:=rfl
@[simp] theorem adR (l:T α)(x:α)(r:T α):(T.nd l x r).get 0=some x:=rfl
theorem aM (l:T α)(x:α)(r:T α)(i:Nat):(T.nd l x r).get (i+1)=if i%2=0 then l.get (i / 2) else r.get (i / 2):=by
 show (Nat.rec (l.get (Nat.div i 2)) (fun _ _=>r.get (Nat.div i 2)) (Nat.mod i 2):Option α)=_
 have h:Nat.mod i 2=i%2:=rfl
 rcases Nat.mod_two_eq_zero_or_one i with h0 | h1
 ·rw [h,h0];rfl
 ·rw [h,h1];rfl
@[simp] theorem aeS (i:Nat)(x:α):(T.e:T α).put i x=.nd .e x .e:=rfl
@[simp] theorem BD (l:T α)(y:α)(r:T α)(x:α):(T.nd l y r).put 0 x=.nd l x r:=rfl
theorem T9 (l:T α)(y:α)(r:T α)(i:Nat)(x:α):(T.nd l y r).put (i+1) x=if i%2=0 then .nd (l.put (i / 2) x) y r else .nd l y (r.put (i / 2) x):=by
 show (Nat.rec (T.nd (l.put (Nat.div i 2) x) y r) (fun _ _=>T.nd l y (r.put (Nat.div i 2) x)) (Nat.mod i 2):T α)=_
 have h:Nat.mod i 2=i%2:=rfl
 rcases Nat.mod_two_eq_zero_or_one i with h0 | h1
 ·rw [h,h0];rfl
 ·rw [h,h1];rfl
inductive Ok:T α→Nat→Prop
 | e:Ok .e 0
 | nd {l r:T α} {x:α} {n:Nat} (hl:Ok l ((n+1) / 2)) (hr:Ok r (n / 2)):Ok (.nd l x r) (n+1)
theorem Ok.get {t:T α}{n:Nat}(h:Ok t n):∀i,(∃x,t.get i=some x)↔i<n:=by
 induction h with
 | e=>intro i;simp
 | @nd l r x n hl hr ihl ihr=>
  intro i
  cases i with
  | zero=>simp
  | succ i=>
   rw [aM]
   split
   ·rw [ihl];omega
   ·rw [ihr];omega
theorem Ok.put {t:T α}{n:Nat}(h:Ok t n):∀i (x:α),i<n→Ok (t.put i x) n:=by
 induction h with
 | e=>intro i x hi;omega
 | @nd l r y n hl hr ihl ihr=>
  intro i x hi
  cases i with
  | zero=>exact .nd hl hr
  | succ i=>
   rw [T9]
   split
   ·exact .nd (ihl _ _ (by omega)) hr
   ·exact .nd hl (ihr _ _ (by omega))
theorem Ok.push {t:T α}{n:Nat}(h:Ok t n):∀(x:α),Ok (t.put n x) (n+1):=by
 induction h with
 | e=>intro x;exact .nd .e .e
 | @nd l r y n hl hr ihl ihr=>
  intro x
  rw [T9]
  split
  ·rename_i h0
   refine .nd ?_ ?_
   ·have:=ihl x
    rw [show (n+1) / 2=n / 2 from by omega] at this
    rw [show (n+1+1) / 2=n / 2+1 from by omega];exact this
   ·rw [show (n+1) / 2=n / 2 from by omega];exact hr
  ·rename_i h0
   refine .nd ?_ ?_
   ·rw [show (n+1+1) / 2=(n+1) / 2 from by omega];exact hl
   ·have:=ihr x
    rw [show (n+1) / 2=n / 2+1 from by omega];exact this
theorem Y0 {t:T α}{n:Nat}(h:Ok t n):∀i (x:α),i≤n→(t.put i x).get i=some x:=by
 induction h with
 | e=>intro i x hi;obtain rfl:i=0:=by omega
      rfl
 | @nd l r y n hl hr ihl ihr=>
  intro i x hi
  cases i with
  | zero=>rfl
  | succ i=>
   rw [T9]
   split
   ·rename_i h0;rw [aM,if_pos h0];exact ihl _ _ (by omega)
   ·rename_i h0;rw [aM,if_neg h0];exact ihr _ _ (by omega)
theorem aI {t:T α}{n:Nat}(h:Ok t n):∀i j (x:α),i≤n→i≠j→(t.put i x).get j=t.get j:=by
 induction h with
 | e=>
  intro i j x hi hj
  obtain rfl:i=0:=by omega
  cases j with
  | zero=>omega
  | succ j=>rw [aeS,aM];simp
 | @nd l r y n hl hr ihl ihr=>
  intro i j x hi hij
  cases i with
  | zero=>
   cases j with
   | zero=>omega
   | succ j=>rw [BD,aM,aM]
  | succ i=>
   rw [T9]
   cases j with
   | zero=>split<;>rfl
   | succ j=>
    split
    ·rename_i h0
     rw [aM,aM]
     split
     ·exact ihl _ _ _ (by omega) (by omega)
     ·rfl
    ·rename_i h0
     rw [aM,aM]
     split
     ·rfl
     ·exact ihr _ _ _ (by omega) (by omega)
theorem jC (x:α)(l:List α)(t:T α)(i:Nat):iw (x::l) t i=iw l (t.put i x) (i+1):=rfl
theorem uL (l:List α):∀(t:T α) (i:Nat),Ok t i→Ok (iw l t i) (i+l.length):=by
 induction l with
 | nil=>intro t i h;exact h
 | cons x l ih=>intro t i h;rw [jC,List.length_cons,show i+(l.length+1)=i+1+l.length from by omega];exact ih _ _ (h.push x)
theorem rV (l:List α):∀(t:T α) (i:Nat),Ok t i→∀j,(iw l t i).get j=if j<i then t.get j else l[j-i]?:=by
 induction l with
 | nil=>
  intro t i h j
  show t.get j=_
  split
  ·rfl
  ·rename_i hj
   cases hg:t.get j with
   | none=>simp
   | some x=>exact absurd ((h.get j).1 ⟨x,hg⟩) hj
 | cons x l ih=>
  intro t i h j
  rw [jC,ih _ _ (h.push x)]
  by_cases h1:j<i
  ·rw [if_pos (by omega),if_pos h1,aI h _ _ _ (Nat.le_refl _) (by omega)]
  ·by_cases h2:j=i
   ·subst h2;rw [if_pos (by omega),Y0 h _ _ (Nat.le_refl _)];simp
   ·rw [if_neg (by omega),if_neg h1,show j-i=(j-(i+1))+1 from by omega];simp
theorem bT (l:List α)(j:Nat):(ofList l).get j=l[j]?:=by
 have:=rV l .e 0 .e j
 simpa [ofList] using this
theorem eB (l:List α):Ok (ofList l) l.length:=by
 have:=uL l .e 0 .e
 simpa [ofList] using this
theorem uM (x:α)(n:Nat)(t:T α)(i:Nat):rep x (n+1) t i=rep x n (t.put i x) (i+1):=rfl
theorem KR (x:α)(n:Nat):∀(t:T α) (i:Nat),Ok t i→Ok (rep x n t i) (i+n):=by
 induction n with
 | zero=>intro t i h;exact h
 | succ n ih=>intro t i h;rw [uM,show i+(n+1)=i+1+n from by omega];exact ih _ _ (h.push x)
theorem EJ (x:α)(n:Nat):∀(t:T α) (i:Nat),Ok t i→∀j,(rep x n t i).get j=if j<i then t.get j else if j<i+n then some x else none:=by
 induction n with
 | zero=>
  intro t i h j
  show t.get j=_
  split
  ·rfl
  ·rename_i hj
   rw [if_neg (by omega)]
   cases hg:t.get j with
   | none=>rfl
   | some y=>exact absurd ((h.get j).1 ⟨y,hg⟩) hj
 | succ n ih=>
  intro t i h j
  rw [uM,ih _ _ (h.push x)]
  by_cases h1:j<i
  ·rw [if_pos (by omega),if_pos h1,aI h _ _ _ (Nat.le_refl _) (by omega)]
  ·by_cases h2:j=i
   ·subst h2;rw [if_pos (by omega),Y0 h _ _ (Nat.le_refl _),if_neg h1,if_pos (by omega)]
   ·rw [if_neg (by omega),if_neg h1]
    by_cases h3:j<i+1+n
    ·rw [if_pos h3,if_pos (by omega)]
    ·rw [if_neg h3,if_neg (by omega)]
theorem sU (t:T α)(i:Nat):t.slice 0 i=some []:=rfl
theorem sV (t:T α)(n i:Nat):t.slice (n+1) i=ob (t.get i) fun x=>ob (t.slice n (i+1)) fun xs=>some (x::xs):=rfl
theorem CP (t:T α)(n:Nat):∀i l,t.slice n i=some l→l.length=n∧∀j,j<n→t.get (i+j)=l[j]?:=by
 induction n with
 | zero=>intro i l h;rw [sU] at h;cases h;simp
 | succ n ih=>
  intro i l h
  rw [sV] at h
  obtain⟨x,hx,h⟩:=J7 h
  obtain⟨xs,hxs,h⟩:=J7 h
  cases h
  obtain⟨hl,hg⟩:=ih _ _ hxs
  refine⟨by simp [hl],fun j hj=>?_⟩
  cases j with
  | zero=>simpa using hx
  | succ j=>rw [show i+(j+1)=i+1+j from by omega,hg j (by omega)];simp
end T
section
variable {α:Type}
@[simp] theorem P8 (l:List α):len' l=l.length:=by
 induction l with
 | nil=>rfl
 | cons x l ih=>show Nat.succ (len' l)=_;rw [ih];rfl
@[simp] theorem U9 (l m:List α):gJ l m=l++m:=by
 induction l with
 | nil=>rfl
 | cons x l ih=>show x::gJ l m=_;rw [ih];rfl
@[simp] theorem eZ (n:Nat):∀l:List α,jk n l=l.drop n:=by
 induction n with
 | zero=>intro l;rfl
 | succ n ih=>
  intro l
  cases l with
  | nil=>rfl
  | cons x l=>exact ih l
@[simp] theorem fM (n:Nat):∀l:List α,vX n l=l[n]?:=by
 induction n with
 | zero=>intro l;cases l<;>rfl
 | succ n ih=>
  intro l
  cases l with
  | nil=>rfl
  | cons x l=>show vX n l=_;rw [ih];rfl
@[simp] theorem KS (n:Nat):∀l:List o8,nth n l=l[n]?.getD .undef:=by
 induction n with
 | zero=>intro l;cases l<;>rfl
 | succ n ih=>
  intro l
  cases l with
  | nil=>rfl
  | cons x l=>show nth n l=_;rw [ih];rfl
theorem fC (n:Nat):∀(l r:List α),takeN n l=some r→r=l.take n∧n≤l.length:=by
 induction n with
 | zero=>intro l r h;cases h;simp
 | succ n ih=>
  intro l r h
  cases l with
  | nil=>cases h
  | cons x l=>
   change ob (takeN n l) (fun r=>some (x::r))=some r at h
   obtain⟨r',hr,h⟩:=J7 h
   cases h
   obtain⟨h1,h2⟩:=ih _ _ hr
   exact⟨by simp [h1],by simp;omega⟩
theorem fD (n:Nat):∀(l:List α),n≤l.length→takeN n l=some (l.take n):=by
 induction n with
 | zero=>intro l _;rfl
 | succ n ih=>
  intro l h
  cases l with
  | nil=>simp at h
  | cons x l=>
   change ob (takeN n l) (fun r=>some (x::r))=_
   rw [ih l (by simpa using h)];rfl
theorem gK (n:Nat)(vs:List α):∀(l:List α),n≤l.length→jq n vs l=l.take n++(vs++l.drop (n+vs.length)):=by
 induction n with
 | zero=>intro l _;show gJ vs (jk (len' vs) l)=_;simp
 | succ n ih=>
  intro l h
  cases l with
  | nil=>simp at h
  | cons x l=>
   show x::jq n vs l=_
   rw [ih l (by simpa using h),show n+1+vs.length=(n+vs.length)+1 from by omega];simp
theorem oC (n:Nat)(vs l:List α)(h:n+vs.length≤l.length):(jq n vs l).length=l.length:=by
 rw [gK n vs l (by omega)];simp;omega
theorem EK (n:Nat)(vs l:List α)(h:n+vs.length≤l.length)(j:Nat):
  (jq n vs l)[j]?=if n≤j∧j<n+vs.length then vs[j-n]? else l[j]?:=by
 rw [gK n vs l (by omega)]
 rw [List.getElem?_append]
 simp only [List.length_take,show min n l.length=n from by omega]
 split
 ·rw [if_neg (by omega),List.getElem?_take,if_pos (by omega)]
 ·rw [List.getElem?_append]
  split
  ·rw [if_pos (by omega)]
  ·rw [if_neg (by omega),List.getElem?_drop];congr 1;omega
end
structure Loc where
 b:Nat
 base:Nat
 cap:Nat
 spot:Option Nat
abbrev Inj:=Nat→Loc
def Inj.at (ι:Inj)(i o:Nat):Addr:=⟨(ι i).b,(ι i).base+o,if o=0 then (ι i).spot else none⟩
theorem Inj.zS {ι:Inj}{i:Nat}(h:(ι i).spot=none)(o:Nat):ι.at i o=⟨(ι i).b,(ι i).base+o,none⟩:=by simp [Inj.at,h]
def fO (ι:Inj):Fn→Fn
 | .yield l=>.yield (ι l).b
 | f=>f
mutual
def I4 (ι:Inj):o8→Value
 | .undef=>.tuple #[]
 | .bool b=>.bool b
 | .int k n=>.int k n
 | .str s=>.string ⟨s.toArray⟩
 | .nilPtr=>.pointer none
 | .ptr i o=>.pointer (some (ι.at i o))
 | .nilSlice=>.slice none 0 0
 | .slice i o l c=>.slice (some (ι.at i o)) l c
 | .sliceU i o l es=>.slice (some (ι.at i o)) l (((ι i).cap-o) / es)
 | .nilMap=>.map none
 | .map i=>.map (some (ι i).b)
 | .nilFunc=>.nilFunc
 | .func fn a b=>.func (fO ι fn) (I7 ι a).toArray (I7 ι b).toArray
 | .nilIface=>.nilIface
 | .iface t v=>.iface t (I4 ι v)
 | .agg l=>.agg (I7 ι l).toArray
 | .tuple l=>.tuple (I7 ι l).toArray
 | .pan v=>.tuple #[I4 ι v]
def I7 (ι:Inj):List o8→List Value
 | []=>[]
 | v::l=>I4 ι v::I7 ι l
end
structure Nm where
 has:Nat→Prop
 cap:Nat→Nat
instance:CoeFun Nm (fun _=>Nat→Prop):=⟨Nm.has⟩
def Nm.le (n m:Nm):Prop:=∀i,n i→m i∧m.cap i=n.cap i
theorem Nm.le_refl (n:Nm):n.le n:=fun _ h=>⟨h,rfl⟩
theorem Nm.le_trans {a b c:Nm}(h:a.le b)(k:b.le c):a.le c:=fun i hi=>⟨(k i (h i hi).1).1,(k i (h i hi).1).2.trans (h i hi).2⟩
def adS (n:Nm):Fn→Prop
 | .yield l=>n l
 | _=>True
mutual
def o8.lt (n:Nm):o8→Prop
 | .ptr i _=>n i
 | .slice i _ _ _=>n i
 | .sliceU i o l es=>n i∧1≤es∧o+l*es≤n.cap i
 | .map i=>n i
 | .func fn a b=>adS n fn∧ltL n a∧ltL n b
 | .iface _ v=>v.lt n
 | .agg l=>ltL n l
 | .tuple l=>ltL n l
 | .pan _=>False
 | _=>True
def ltL (n:Nm):List o8→Prop
 | []=>True
 | v::l=>v.lt n∧ltL n l
end
theorem Y9 (ι:Inj)(l:List o8):I7 ι l=l.map (I4 ι):=by
 induction l with
 | nil=>simp [I7]
 | cons v l ih=>simp [I7,ih]
theorem aK {n:Nm}{l:List o8}:ltL n l↔∀v∈l,v.lt n:=by
 induction l with
 | nil=>simp [ltL]
 | cons v l ih=>simp [ltL,ih]
@[simp] theorem U3 (ι:Inj)(l:List o8):(I7 ι l).length=l.length:=by simp [Y9]
theorem Y1 (ι:Inj)(l:List o8)(i:Nat):(I7 ι l)[i]?=l[i]?.map (I4 ι):=by simp [Y9]
mutual
theorem Q7 {n:Nm}{ι ι':Inj}(h:∀i,n i→ι' i=ι i):∀v:o8,v.lt n→I4 ι' v=I4 ι v
 | .undef,_ | .bool _,_ | .int _ _,_ | .str _,_ | .nilPtr,_ | .nilSlice,_ | .nilMap,_ | .nilFunc,_ | .nilIface,_=>by simp [I4]
 | .ptr i o,hv=>by simp only [o8.lt] at hv;simp [I4,Inj.at,h i hv]
 | .slice i o l c,hv=>by simp only [o8.lt] at hv;simp [I4,Inj.at,h i hv]
 | .sliceU i o l c,hv=>by simp only [o8.lt] at hv;simp [I4,Inj.at,h i hv.1]
 | .map i,hv=>by simp only [o8.lt] at hv;simp [I4,h i hv]
 | .func fn a b,hv=>by
  simp only [o8.lt] at hv
  obtain⟨hf,ha,hb⟩:=hv
  have e:fO ι' fn=fO ι fn:=by cases fn<;>simp_all [fO,adS]
  simp [I4,e,aP h a ha,aP h b hb]
 | .iface t v,hv=>by simp only [o8.lt] at hv;simp [I4,Q7 h v hv]
 | .agg l,hv=>by simp only [o8.lt] at hv;simp [I4,aP h l hv]
 | .tuple l,hv=>by simp only [o8.lt] at hv;simp [I4,aP h l hv]
 | .pan v,hv=>by simp only [o8.lt] at hv
theorem aP {n:Nm}{ι ι':Inj}(h:∀i,n i→ι' i=ι i):∀l:List o8,ltL n l→I7 ι' l=I7 ι l
 | [],_=>by simp [I7]
 | v::l,hl=>by simp only [ltL] at hl;simp [I7,Q7 h v hl.1,aP h l hl.2]
end
mutual
theorem o8.Q9 {n m:Nm}(h:n.le m):∀v:o8,v.lt n→v.lt m
 | .undef,_ | .bool _,_ | .int _ _,_ | .str _,_ | .nilPtr,_ | .nilSlice,_ | .nilMap,_ | .nilFunc,_ | .nilIface,_=>by simp [o8.lt]
 | .ptr i o,hv=>by simp only [o8.lt] at *;exact (h _ hv).1
 | .slice i o l c,hv=>by simp only [o8.lt] at *;exact (h _ hv).1
 | .sliceU i o l c,hv=>by simp only [o8.lt] at *;exact⟨(h _ hv.1).1,hv.2.1,by rw [(h _ hv.1).2];exact hv.2.2⟩
 | .map i,hv=>by simp only [o8.lt] at *;exact (h _ hv).1
 | .func fn a b,hv=>by
  simp only [o8.lt] at *
  exact⟨by cases fn<;>first | trivial | exact (h _ hv.1).1,aW h a hv.2.1,aW h b hv.2.2⟩
 | .iface t v,hv=>by simp only [o8.lt] at *;exact o8.Q9 h v hv
 | .agg l,hv=>by simp only [o8.lt] at *;exact aW h l hv
 | .tuple l,hv=>by simp only [o8.lt] at *;exact aW h l hv
 | .pan v,hv=>by simp only [o8.lt] at hv
theorem aW {n m:Nm}(h:n.le m):∀l:List o8,ltL n l→ltL m l
 | [],_=>by simp [ltL]
 | v::l,hl=>by simp only [ltL] at *;exact⟨o8.Q9 h v hl.1,aW h l hl.2⟩
end
theorem iE (ι:Inj)(v:o8):(I4 ι v).cells=(I7 ι v.cells).toArray:=by
 cases v<;>simp [I4,Value.cells,o8.cells,I7]
theorem pQ {n:Nm}{v:o8}(h:v.lt n):ltL n v.cells:=by
 cases v<;>simp_all [o8.lt,o8.cells,ltL]
mutual
theorem gM (ι:Inj):∀(v:Value) (a:o8),ofValue v=some a→I4 ι a=v∧∀n,a.lt n
 | .bool b,a,h=>by simp only [ofValue,Option.some.injEq] at h;subst h;simp [I4,o8.lt]
 | .int k n,a,h=>by simp only [ofValue,Option.some.injEq] at h;subst h;simp [I4,o8.lt]
 | .string s,a,h=>by simp only [ofValue,Option.some.injEq] at h;subst h;simp [I4,o8.lt]
 | .pointer none,a,h=>by simp only [ofValue,Option.some.injEq] at h;subst h;simp [I4,o8.lt]
 | .pointer (some _),a,h=>by simp [ofValue] at h
 | .slice none 0 0,a,h=>by simp only [ofValue,Option.some.injEq] at h;subst h;simp [I4,o8.lt]
 | .slice (some _) _ _,a,h=>by simp [ofValue] at h
 | .slice none (_+1) _,a,h=>by simp [ofValue] at h
 | .slice none 0 (_+1),a,h=>by simp [ofValue] at h
 | .map none,a,h=>by simp only [ofValue,Option.some.injEq] at h;subst h;simp [I4,o8.lt]
 | .map (some _),a,h=>by simp [ofValue] at h
 | .nilFunc,a,h=>by simp only [ofValue,Option.some.injEq] at h;subst h;simp [I4,o8.lt]
 | .nilIface,a,h=>by simp only [ofValue,Option.some.injEq] at h;subst h;simp [I4,o8.lt]
 | .func (.func f) ⟨[]⟩ ⟨[]⟩,a,h=>by simp only [ofValue,Option.some.injEq] at h;subst h;simp [I4,o8.lt,fO,I7,adS,ltL]
 | .func (.func f) ⟨_ :: _⟩ _,a,h=>by simp [ofValue] at h
 | .func (.func f) ⟨[]⟩ ⟨_ :: _⟩,a,h=>by simp [ofValue] at h
 | .func (.method _) _ _,a,h=>by simp [ofValue] at h
 | .func (.methodOf _ _) _ _,a,h=>by simp [ofValue] at h
 | .func (.via _ _ _ _) _ _,a,h=>by simp [ofValue] at h
 | .func (.yield _) _ _,a,h=>by simp [ofValue] at h
 | .agg ⟨l⟩,a,h=>by
  simp only [ofValue] at h
  cases hx:ofValues l with
  | none=>simp [hx] at h
  | some x=>
   simp only [hx,Option.some.injEq] at h;subst h
   obtain⟨h1,h2⟩:=kV ι l x hx
   simp [I4,o8.lt,h1];exact h2
 | .tuple ⟨[]⟩,a,h=>by simp only [ofValue,Option.some.injEq] at h;subst h;simp [I4,o8.lt,I7,ltL]
 | .tuple ⟨_ :: _⟩,a,h=>by simp [ofValue] at h
 | .float _ _,a,h=>by simp [ofValue] at h
 | .complex _ _ _,a,h=>by simp [ofValue] at h
 | .chan _,a,h=>by simp [ofValue] at h
 | .iface _ _,a,h=>by simp [ofValue] at h
theorem kV (ι:Inj):∀(l:List Value) (x:List o8),ofValues l=some x→I7 ι x=l∧∀n,ltL n x
 | [],x,h=>by simp only [ofValues,Option.some.injEq] at h;subst h;simp [I7,ltL]
 | v::l,x,h=>by
  simp only [ofValues] at h
  cases hv:ofValue v with
  | none=>simp [hv] at h
  | some a=>
   cases hl:ofValues l with
   | none=>simp [hv,hl] at h
   | some y=>
    simp only [hv,hl,Option.some.injEq] at h;subst h
    obtain⟨h1,h2⟩:=gM ι v a hv
    obtain⟨h3,h4⟩:=kV ι l y hl
    simp [I7,ltL,h1,h3];exact fun n=>⟨h2 n,h4 n⟩
end
end Go.AM
namespace Go.AM
open Go
theorem UO:∀(n j:Nat) (t:T o8),j+1<2^n→way n j t=(t.get j).getD .undef:=by
 intro n
 induction n with
 | zero=>intro j t h;simp at h
 | succ n ih=>
  intro j t h
  cases j with
  | zero=>cases t<;>rfl
  | succ j=>
   have hj:j / 2+1<2^n:=by rw [Nat.pow_succ] at h;omega
   rcases Nat.mod_two_eq_zero_or_one j with h0 | h0
   ·simp only [way,h0]
    cases t with
    | e=>rfl
    | nd l x r=>rw [T.aM,if_pos h0];exact ih _ l hj
   ·simp only [way,h0]
    cases t with
    | e=>rfl
    | nd l x r=>rw [T.aM,if_neg (by omega)];exact ih _ r hj
theorem MR (v:o8):∀(n j:Nat) (t:T o8) (x:o8),j+1<2^n→t.get j=some x→H9 n j v t=t.put j v:=by
 intro n
 induction n with
 | zero=>intro j t x h;simp at h
 | succ n ih=>
  intro j t x h hx
  cases t with
  | e=>simp at hx
  | nd l y r=>
   cases j with
   | zero=>rfl
   | succ j=>
    have hj:j / 2+1<2^n:=by rw [Nat.pow_succ] at h;omega
    rw [T.aM] at hx
    rcases Nat.mod_two_eq_zero_or_one j with h0 | h0
    ·rw [if_pos h0] at hx
     simp only [H9,h0]
     rw [T.T9,if_pos h0];show T.nd (H9 n (j / 2) v l) y r=_;rw [ih _ l x hj hx]
    ·rw [if_neg (by omega)] at hx
     simp only [H9,h0]
     rw [T.T9,if_neg (by omega)];show T.nd l y (H9 n (j / 2) v r)=_;rw [ih _ r x hj hx]
theorem mo {t:Nat}{l:List Nat}{i j:Nat}(h:idxOf t l i=some j):i≤j∧j<i+l.length∧l[j-i]?=some t:=by
 induction l generalizing i with
 | nil=>simp [idxOf] at h
 | cons x l ih=>
  simp only [idxOf] at h
  cases hx:Nat.beq x t with
  | true=>
   simp only [hx,cond_true,Option.some.injEq] at h
   subst h
   have:=Nat.eq_of_beq_eq_true hx
   simp [this]
  | false=>
   simp only [hx,cond_false] at h
   obtain⟨h1,h2,h3⟩:=ih h
   refine⟨by omega,by simp;omega,?_⟩
   rw [show j-i=(j-(i+1))+1 from by omega];simpa using h3
theorem EL {t u:Nat}{l:List Nat}{i j:Nat}(h:idxOf t l i=some j)(h':idxOf u l i=some j):t=u:=by
 have a:=(mo h).2.2
 have b:=(mo h').2.2
 rw [a] at b;exact Option.some.inj b
structure aL (ι:Inj)(n:Nm)(slots:List Nat)(env:T o8)(tmps:Array Value):Prop where
 ok:T.Ok env slots.length
 small:slots.length<2^60
 val:∀t j,idxOf t slots 0=some j→t<tmps.size∧∃v,env.get j=some v∧v.lt n∧tmps.getD t undef=I4 ι v
theorem aL.mono {ι ι':Inj}{n n':Nm}{slots:List Nat}{env:T o8}{tmps:Array Value}(h:aL ι n slots env tmps)
  (hi:∀i,n i→ι' i=ι i) (hn:n.le n'):aL ι' n' slots env tmps:=
 ⟨h.ok,h.small,fun t j ht=>by
  obtain⟨h1,v,h2,h3,h4⟩:=h.val t j ht
  exact⟨h1,v,h2,v.Q9 hn h3,by rw [h4,Q7 hi v h3]⟩⟩
theorem U7 (a:Array Value)(i j:Nat)(v:Value)(hi:i<a.size):
  (a.setIfInBounds i v).getD j undef=if i=j then v else a.getD j undef:=by
 rw [Array.getD_eq_getD_getElem?,Array.getD_eq_getD_getElem?]
 by_cases h:i=j
 ·subst h;rw [if_pos rfl,Array.getElem?_setIfInBounds_self_of_lt hi];rfl
 ·rw [if_neg h,Array.getElem?_setIfInBounds_ne h]
theorem aL.put {ι:Inj}{n:Nm}{slots:List Nat}{env:T o8}{tmps:Array Value}(h:aL ι n slots env tmps)(d:Option Tmp){v:o8}(hv:v.lt n):
  aL ι n slots (trD (KP slots d) v env) (match d with | some t=>tmps.setIfInBounds t (I4 ι v) | none=>tmps):=by
 cases d with
 | none=>exact h
 | some t=>
  simp only [KP]
  cases ht:idxOf t slots 0 with
  | none=>
   refine⟨h.ok,h.small,fun u j hu=>?_⟩
   obtain⟨h1,v',h2,h3,h4⟩:=h.val u j hu
   refine⟨by simpa using h1,v',h2,h3,?_⟩
   have hne:t≠u:=fun e=>by subst e;rw [ht] at hu;cases hu
   by_cases hts:t<tmps.size
   ·rw [U7 _ _ _ _ hts,if_neg hne];exact h4
   ·rw [show tmps.setIfInBounds t (I4 ι v)=tmps from Array.setIfInBounds_eq_of_size_le (Nat.le_of_not_lt hts)];exact h4
  | some k=>
   obtain⟨h1,x,h2,_,_⟩:=h.val t k ht
   have hk:=(mo ht).2.1
   have hway:trD (some k) v env=env.put k v:=MR v 64 k env x (by have:=h.small;have:(2:Nat)^60<2^64:=by decide
                                                                 omega) h2
   rw [hway]
   refine⟨h.ok.put _ _ (by omega),h.small,fun u j hu=>?_⟩
   obtain⟨g1,v',g2,g3,g4⟩:=h.val u j hu
   refine⟨by simpa using g1,?_⟩
   rw [U7 _ _ _ _ h1]
   by_cases he:t=u
   ·subst he
    rw [ht] at hu;cases hu
    exact⟨v,T.Y0 h.ok _ _ (by omega),hv,by simp⟩
   ·refine⟨v',?_,g3,by rw [if_neg he];exact g4⟩
    rw [T.aI h.ok _ _ _ (by omega) (fun e=>he (by subst e;exact EL ht hu))];exact g2
def Y4:Blk→Bool
 | .cells .. | .map _ | .iter .. | .loop .. | .deferred=>true
 | _=>false
def exitCode:X5→Code
 | .normal=>.skip
 | .exit id=>.exit id
 | .ret=>.ret
section
variable (P:Program)
structure qo (ι:Inj)(n:Nm)(L:Loop)(st:LoopState)(pend:Option X5)(env:T o8)(params:List (Option Nat))(assign body:aV):Prop where
 state:L.state=st
 pending:L.pending=pend.map exitCode
 code:∃slots,aL ι n slots env L.tmps∧params=L.params.toList.map (fun t=>idxOf t slots 0)∧X6 P slots L.assign=some assign∧X6 P slots L.body=some body∧
  ∃nt,nt≤L.tmps.size∧tmpsIn nt L.assign=true∧tmpsIn nt L.body=true
def L6 (ι:Inj):List (o8×o8)→Nat→List MapEntry
 | [],_=>[]
 | e::es,i=>{key:=I4 ι e.1,val:=I4 ι e.2,born:=i}::L6 ι es (i+1)
def dM (ι:Inj)(n:Nm)(h:Array Obj)(l:Loc):Blk→Prop
 | .void=>True
 | .dead=>True
 | .cells rs k rows=>∃c e fz,h[l.b]?=some (.cells c e fz)∧l.base+l.cap≤c.size∧(k*rs≤l.cap∧∃N,k≤N∧T.Ok rows N)∧
   ∀i,i<k→∃row,rows.get i=some row∧row.length=rs∧ltL n row∧∀j,j<rs→c[l.base+(i*rs+j)]?=(row[j]?).map (I4 ι)
 | .map es=>h[l.b]?=some (.map (L6 ι es 0).toArray es.length)∧∀e∈es,e.1.lt n∧e.2.lt n
 | .iter mp since seen=>l.base=0∧(∀x,mp=some x→n x)∧∃sn st,h[l.b]?=some (.mapIter (mp.map fun x=>(ι x).b) since sn st)∧sn.toList.reverse=seen∧(mp≠none→st=since)
 | .tail p=>n p∧(l.cap=0∨(l.b=(ι p).b∧l.base+l.cap≤(ι p).base+(ι p).cap∧((ι p).spot=none→l.spot=none)))
 | .loop st pend env params assign body=>∃L,h[l.b]?=some (.loop L)∧qo P ι n L st pend env params assign body
 | .deferred=>h[l.b]?=some (.deferred (some []))
structure awd (ι:Inj)(m:Mem)(h:Array Obj)(i:Nat):Prop where
 alone:∀j b,j≠i→m.get j=some b→Y4 b=true→(ι j).b≠(ι i).b
 free:∀c e fz,h[(ι i).b]?=some (.cells c e fz)→∀k,k<c.size→¬ (fz.1≤k∧k<fz.2)
def gI:Blk→Bool
 | .void=>true
 | _=>false
def Mem.has (m:Mem)(i:Nat):Prop:=∃b,m.get i=some b∧gI b=false
def Mem.nm (m:Mem)(ι:Inj):Nm:=⟨m.has,fun i=>(ι i).cap⟩
theorem Mem.aA {m m':Mem}{ι ι':Inj}(h:∀i,m.has i→m'.has i)(hi:∀i,m.has i→ι' i=ι i):(m.nm ι).le (m'.nm ι'):=
 fun i hh=>⟨h i hh,congrArg Loc.cap (hi i hh)⟩
structure RM (G:Mem)(ι:Inj)(m:Mem)(h:Array Obj):Prop where
 ok:T.Ok m.t m.next
 blk:∀i b,m.get i=some b→dM P ι (m.nm ι) h (ι i) b
 own:∀i b,m.lim≤i→m.get i=some b→Y4 b=true→awd ι m h i
 glim:G.next≤m.lim
 limn:m.lim≤m.next
 gle:P.globals.size≤G.next
 base:∀i,i<G.next→m.get i=G.get i
 ghas:∀i,i<P.globals.size→m.has i
 glob:∀i,i<P.globals.size→(ι i).b=i∧(ι i).base=0∧(ι i).spot=none
 spot:∀i b,m.get i=some b→Y4 b=true→(ι i).spot=none
end
def Jl (ι:Inj)(m:Mem)(b:Nat):Prop:=∃i x,m.lim≤i∧m.get i=some x∧Y4 x=true∧(ι i).b=b
structure Step (P:Program)(G:Mem)(ι:Inj)(m:Mem)(w:World)(ι':Inj)(m':Mem)(w':World):Prop where
 rm:RM P G ι' m' w'.heap
 ext:∀i,m.has i→ι' i=ι i
 has:∀i,m.has i→m'.has i
 next:m.next≤m'.next
 lim:m'.lim=m.lim
 old:∀i,i<m.lim→m'.get i=m.get i
 size:w.heap.size≤w'.heap.size
 frame:∀b,b<w.heap.size→¬ Jl ι m b→w'.heap[b]?=w.heap[b]?
 own:∀b,Jl ι' m' b→Jl ι m b∨w.heap.size≤b
 os:w'.os=w.os
 out:w'.output=w.output
 tape:w'.tape=w.tape
theorem Step.refl {P:Program}{G:Mem}{ι:Inj}{m:Mem}{w:World}(h:RM P G ι m w.heap):Step P G ι m w ι m w:=
 ⟨h,fun _ _=>rfl,fun _ h=>h,Nat.le_refl _,rfl,fun _ _=>rfl,Nat.le_refl _,fun _ _ _=>rfl,fun _ h=>.inl h,rfl,rfl,rfl⟩
theorem Step.drew {P:Program}{G:Mem}{ι:Inj}{m:Mem}{w:World}(h:RM P G ι m w.heap)(n:Nat):Step P G ι m w ι m {w with drawn:=n}:=
 ⟨h,fun _ _=>rfl,fun _ h=>h,Nat.le_refl _,rfl,fun _ _=>rfl,Nat.le_refl _,fun _ _ _=>rfl,fun _ h=>.inl h,rfl,rfl,rfl⟩
theorem Step.trans {P:Program}{G:Mem}{ι₁ ι₂ ι₃:Inj}{m₁ m₂ m₃:Mem}{w₁ w₂ w₃:World}(a:Step P G ι₁ m₁ w₁ ι₂ m₂ w₂)(b:Step P G ι₂ m₂ w₂ ι₃ m₃ w₃):
  Step P G ι₁ m₁ w₁ ι₃ m₃ w₃ where
 rm:=b.rm
 ext i hi:=(b.ext i (a.has i hi)).trans (a.ext i hi)
 has i hi:=b.has i (a.has i hi)
 next:=Nat.le_trans a.next b.next
 lim:=b.lim.trans a.lim
 old i hi:=(b.old i (by rw [a.lim];exact hi)).trans (a.old i hi)
 size:=Nat.le_trans a.size b.size
 frame x hx ho:=by
  refine (b.frame x (Nat.lt_of_lt_of_le hx a.size) fun h=>?_).trans (a.frame x hx ho)
  rcases a.own x h with h | h
  ·exact ho h
  ·omega
 own x h:=by
  rcases b.own x h with h | h
  ·exact a.own x h
  ·exact .inr (Nat.le_trans a.size h)
 os:=b.os.trans a.os
 out:=b.out.trans a.out
 tape:=b.tape.trans a.tape
theorem Step.I4 {P:Program}{G:Mem}{ι ι':Inj}{m m':Mem}{w w':World}(a:Step P G ι m w ι' m' w'){v:o8}(h:v.lt (m.nm ι)):AM.I4 ι' v=AM.I4 ι v:=
 Q7 (n:=m.nm ι) a.ext v h
theorem Step.env {P:Program}{G:Mem}{ι ι':Inj}{m m':Mem}{w w':World}(a:Step P G ι m w ι' m' w'){slots:List Nat}{env:T o8}{tmps:Array Value}
  (h:aL ι (m.nm ι) slots env tmps):aL ι' (m'.nm ι') slots env tmps:=h.mono (n:=m.nm ι) a.ext (Mem.aA a.has a.ext)
theorem qo.mono {P:Program}{ι ι':Inj}{n n':Nm}{L:Loop}{st:LoopState}{pend:Option X5}{env:T o8}{params:List (Option Nat)}{assign body:aV}
  (h:qo P ι n L st pend env params assign body) (hi:∀i,n i→ι' i=ι i) (hn:n.le n'):qo P ι' n' L st pend env params assign body:=by
 obtain⟨h1,h2,slots,h3,h4⟩:=h
 exact⟨h1,h2,slots,h3.mono hi hn,h4⟩
theorem mq {ι ι':Inj}{n:Nm}(hi:∀i,n i→ι' i=ι i):∀(es:List (o8×o8)) (i:Nat),(∀e∈es,e.1.lt n∧e.2.lt n)→L6 ι' es i=L6 ι es i
 | [],_,_=>rfl
 | e::es,i,h=>by
  simp only [L6]
  rw [Q7 hi _ (h e (by simp)).1,Q7 hi _ (h e (by simp)).2,mq hi es (i+1) (fun e he=>h e (by simp [he]))]
@[simp] theorem rW (ι:Inj):∀(es:List (o8×o8)) (i:Nat),(L6 ι es i).length=es.length
 | [],_=>rfl
 | e::es,i=>by simp [L6,rW ι es]
theorem fP (ι:Inj):∀(es:List (o8×o8)) (i j:Nat),(L6 ι es i)[j]?=(es[j]?).map fun e=>{key:=I4 ι e.1,val:=I4 ι e.2,born:=i+j}
 | [],_,_=>by simp [L6]
 | e::es,i,0=>by simp [L6]
 | e::es,i,j+1=>by simp [L6,fP ι es,show i+1+j=i+(j+1) from by omega]
theorem dM.mono {P:Program}{ι ι':Inj}{n n':Nm}{h h':Array Obj}{l:Loc}{b:Blk}(hb:dM P ι n h l b)
  (hi:∀i,n i→ι' i=ι i) (hn:n.le n') (hh:Y4 b=true→h'[l.b]?=h[l.b]?):dM P ι' n' h' l b:=by
 cases b with
 | void=>trivial
 | dead=>trivial
 | cells rs k rows=>
  obtain⟨c,e,fz,h1,h2,h3,h4⟩:=hb
  refine⟨c,e,fz,by rw [hh rfl];exact h1,h2,h3,fun i hk=>?_⟩
  obtain⟨row,g1,g2,g3,g4⟩:=h4 i hk
  refine⟨row,g1,g2,aW hn row g3,fun j hj=>?_⟩
  rw [g4 j hj]
  cases hr:row[j]? with
  | none=>rfl
  | some v=>simp [Q7 hi v (aK.1 g3 v (List.mem_of_getElem? hr))]
 | map es=>
  obtain⟨h1,h2⟩:=hb
  refine⟨?_,fun e he=>⟨e.1.Q9 hn (h2 e he).1,e.2.Q9 hn (h2 e he).2⟩⟩
  rw [hh rfl,h1,mq hi es 0 h2]
 | iter mp since seen=>
  obtain⟨h0,h1,sn,st,h2,h3,h4⟩:=hb
  refine⟨h0,fun x hx=>(hn x (h1 x hx)).1,sn,st,?_,h3,h4⟩
  rw [hh rfl,h2]
  cases mp with
  | none=>rfl
  | some x=>simp [hi x (h1 x rfl)]
 | tail p=>
  obtain⟨h1,h2⟩:=hb
  exact⟨(hn p h1).1,by rw [hi p h1];exact h2⟩
 | loop st pend env params assign body=>
  obtain⟨L,h1,h2⟩:=hb
  exact⟨L,by rw [hh rfl];exact h1,h2.mono hi hn⟩
 | deferred=>exact (hh rfl).trans hb
theorem Mem.Y5 {m:Mem}(h:T.Ok m.t m.next)(b:Blk)(i:Nat):(m.new b).get i=if i=m.next then some b else m.get i:=by
 show (m.t.put m.next b).get i=_
 split
 ·rename_i e;subst e;exact T.Y0 h _ _ (Nat.le_refl _)
 ·rename_i e;exact T.aI h _ _ _ (Nat.le_refl _) (fun h=>e h.symm)
theorem Mem.Z6 {m:Mem}(h:T.Ok m.t m.next){j:Nat}(hj:j<m.next)(b:Blk)(i:Nat):(m.set j b).get i=if i=j then some b else m.get i:=by
 show (m.t.put j b).get i=_
 split
 ·rename_i e;subst e;exact T.Y0 h _ _ (Nat.le_of_lt hj)
 ·rename_i e;exact T.aI h _ _ _ (Nat.le_of_lt hj) (fun h=>e h.symm)
theorem Mem.L9 {m:Mem}(h:T.Ok m.t m.next){i:Nat}{b:Blk}(hi:m.get i=some b):i<m.next:=(h.get i).1 ⟨b,hi⟩
@[simp] theorem Mem.BF (m:Mem)(b:Blk):(m.new b).next=m.next+1:=rfl
@[simp] theorem Mem.MS (m:Mem)(b:Blk):(m.new b).lim=m.lim:=rfl
@[simp] theorem Mem.adT (m:Mem)(i:Nat)(b:Blk):(m.set i b).next=m.next:=rfl
@[simp] theorem Mem.aeT (m:Mem)(i:Nat)(b:Blk):(m.set i b).lim=m.lim:=rfl
def Inj.upd (ι:Inj)(i:Nat)(l:Loc):Inj:=fun j=>if j=i then l else ι j
@[simp] theorem Inj.U0 (ι:Inj)(i:Nat)(l:Loc):ι.upd i l i=l:=by simp [Inj.upd]
theorem Inj.upd_ne (ι:Inj){i j:Nat}(l:Loc)(h:j≠i):ι.upd i l j=ι j:=by simp [Inj.upd,h]
theorem cZ {P:Program}{ι:Inj}{n:Nm}{h:Array Obj}{l:Loc}{b:Blk}(hb:dM P ι n h l b)(hl:Y4 b=true):l.b<h.size:=by
 cases b with
 | void=>cases hl
 | dead=>cases hl
 | tail=>cases hl
 | cells rs k rows=>obtain⟨c,e,fz,h1,_⟩:=hb;exact (Array.getElem?_eq_some_iff.1 h1).1
 | map es=>obtain⟨h1,_⟩:=hb;exact (Array.getElem?_eq_some_iff.1 h1).1
 | iter mp since seen=>obtain⟨_,_,sn,st,h1,_⟩:=hb;exact (Array.getElem?_eq_some_iff.1 h1).1
 | loop=>obtain⟨L,h1,_⟩:=hb;exact (Array.getElem?_eq_some_iff.1 h1).1
 | deferred=>exact (Array.getElem?_eq_some_iff.1 hb).1
structure Laid (m m':Mem)(nid:Nat)(b:Blk):Prop where
 ok:T.Ok m'.t m'.next
 get:∀i,m'.get i=if i=nid then some b else m.get i
 lim:m'.lim=m.lim
 next:m.next≤m'.next
 le:m.lim≤nid
 free:¬ m.has nid
 live:gI b=false
theorem Laid.new {m:Mem}(h:T.Ok m.t m.next)(hl:m.lim≤m.next)(b:Blk)(hb:gI b=false):Laid m (m.new b) m.next b:=
 ⟨h.push b,Mem.Y5 h b,rfl,Nat.le_succ _,hl,fun ⟨_,h1,_⟩=>Nat.lt_irrefl _ (Mem.L9 h h1),hb⟩
theorem Laid.set {m:Mem}(h:T.Ok m.t m.next){i:Nat}(hi:m.get i=some .void)(hl:m.lim≤i)(b:Blk)(hb:gI b=false):Laid m (m.set i b) i b:=
 ⟨h.put i b (Mem.L9 h hi),Mem.Z6 h (Mem.L9 h hi) b,rfl,Nat.le_refl _,hl,fun ⟨_,h1,h2⟩=>(by rw [hi] at h1;cases h1;cases h2),hb⟩
theorem Laid.has {m m':Mem}{nid:Nat}{b:Blk}(h:Laid m m' nid b)(i:Nat)(hi:m.has i):m'.has i:=by
 have hne:i≠nid:=fun e=>h.free (e▸hi)
 obtain⟨x,h1,h2⟩:=hi
 exact⟨x,by rw [h.get,if_neg hne];exact h1,h2⟩
theorem Laid.self {m m':Mem}{nid:Nat}{b:Blk}(h:Laid m m' nid b):m'.has nid:=⟨b,by rw [h.get,if_pos rfl],h.live⟩
theorem ko {m:Mem}{i:Nat}{b:Blk}(h:m.get i=some b)(hl:Y4 b=true):m.has i:=⟨b,h,by cases b<;>first | rfl | cases hl⟩
structure UQ (w w':World)(o:Obj):Prop where
 heap:w'.heap=w.heap.push o
 os:w'.os=w.os
 out:w'.output=w.output
 tape:w'.tape=w.tape
theorem Step.lay {P:Program}{G:Mem}{ι:Inj}{m m':Mem}{w w':World}(h:RM P G ι m w.heap){nid:Nat}{b:Blk}(hm:Laid m m' nid b){o:Obj}(hw:UQ w w' o){l:Loc}
  (hl:l.b=w.heap.size) (hs:l.spot=none)
  (hb:dM P (ι.upd nid l) (m'.nm (ι.upd nid l)) (w.heap.push o) l b)
  (hf:∀c e fz,o=.cells c e fz→∀k,k<c.size→¬ (fz.1≤k∧k<fz.2)):
  Step P G ι m w (ι.upd nid l) m' w':=by
 have hold:∀i x,m.get i=some x→Y4 x=true→(ι i).b<w.heap.size:=fun i x hx hlx=>cZ (h.blk i x hx) hlx
 have hpush:∀k,k<w.heap.size→w'.heap[k]?=w.heap[k]?:=fun k hk=>by rw [hw.heap];exact Array.getElem?_push_lt hk |>.trans (Array.getElem?_eq_getElem hk).symm
 have hext:∀j,m.has j→ι.upd nid l j=ι j:=fun j hj=>ι.upd_ne l fun e=>hm.free (e▸hj)
 refine⟨⟨hm.ok,?_,?_,by rw [hm.lim];exact h.glim,by rw [hm.lim];exact Nat.le_trans h.limn hm.next,h.gle,fun i hi=>by rw [hm.get,if_neg (by have:=hm.le;have:=h.glim;omega)];exact h.base i hi,fun i hi=>hm.has i (h.ghas i hi),?_,?_⟩,hext,hm.has,hm.next,hm.lim,?_,by rw [hw.heap];simp,?_,?_,hw.os,hw.out,hw.tape⟩
 ·intro i x hx
  rw [hm.get] at hx
  split at hx
  ·rename_i e;subst e;cases hx;rw [hw.heap];simpa using hb
  ·rename_i e
   rw [ι.upd_ne l e]
   exact (h.blk i x hx).mono (n:=m.nm ι) hext (Mem.aA hm.has hext) (fun hlx=>hpush _ (hold i x hx hlx))
 ·intro i x hi hx hlx
  rw [hm.lim] at hi
  rw [hm.get] at hx
  split at hx
  ·rename_i e;subst e;cases hx
   refine⟨fun j y hj hy hly=>?_,fun c e fz hc=>?_⟩
   ·rw [hm.get,if_neg hj] at hy
    rw [ι.upd_ne l hj,ι.U0,hl]
    have:=hold j y hy hly;omega
   ·rw [ι.U0,hl,hw.heap] at hc
    simp at hc
    exact hf c e fz hc
  ·rename_i e
   have ho:=h.own i x hi hx hlx
   have hb':=hold i x hx hlx
   refine⟨fun j y hj hy hly=>?_,fun c e' fz hc=>?_⟩
   ·rw [ι.upd_ne l e]
    rw [hm.get] at hy
    split at hy
    ·rename_i ej;subst ej;cases hy;rw [ι.U0,hl];omega
    ·rename_i ej;rw [ι.upd_ne l ej];exact ho.alone j y hj hy hly
   ·rw [ι.upd_ne l e] at hc
    rw [hpush _ hb'] at hc
    exact ho.free c e' fz hc
 ·intro i hi
  rw [hext i (h.ghas i hi)];exact h.glob i hi
 ·intro i x hx hlx
  rw [hm.get] at hx
  split at hx
  ·rename_i e;subst e;rw [ι.U0];exact hs
  ·rename_i e;rw [ι.upd_ne l e];exact h.spot i x hx hlx
 ·intro i hi
  rw [hm.get,if_neg (by have:=hm.le;omega)]
 ·intro b' hb' _;exact hpush b' hb'
 ·rintro b' ⟨i,x,hi,hx,hlx,rfl⟩
  rw [hm.lim] at hi
  rw [hm.get] at hx
  split at hx
  ·rename_i e;subst e;right;rw [ι.U0,hl];exact Nat.le_refl _
  ·rename_i e;left
   rw [ι.upd_ne l e]
   exact⟨i,x,hi,hx,hlx,rfl⟩
theorem Step.name {P:Program}{G:Mem}{ι:Inj}{m m':Mem}{w:World}(h:RM P G ι m w.heap){nid:Nat}{b:Blk}(hm:Laid m m' nid b)(hd:Y4 b=false){l:Loc}
  (hb:dM P (ι.upd nid l) (m'.nm (ι.upd nid l)) w.heap l b):Step P G ι m w (ι.upd nid l) m' w:=by
 have hext:∀j,m.has j→ι.upd nid l j=ι j:=fun j hj=>ι.upd_ne l fun e=>hm.free (e▸hj)
 have hne:∀i x,m'.get i=some x→Y4 x=true→i≠nid∧m.get i=some x:=fun i x hx hlx=>by
  rw [hm.get] at hx
  split at hx
  ·cases hx;rw [hd] at hlx;cases hlx
  ·exact⟨by assumption,hx⟩
 refine⟨⟨hm.ok,?_,?_,by rw [hm.lim];exact h.glim,by rw [hm.lim];exact Nat.le_trans h.limn hm.next,h.gle,fun i hi=>by rw [hm.get,if_neg (by have:=hm.le;have:=h.glim;omega)];exact h.base i hi,fun i hi=>hm.has i (h.ghas i hi),?_,?_⟩,hext,hm.has,hm.next,hm.lim,?_,Nat.le_refl _,fun _ _ _=>rfl,?_,rfl,rfl,rfl⟩
 ·intro i x hx
  rw [hm.get] at hx
  split at hx
  ·rename_i e;subst e;cases hx;simpa using hb
  ·rename_i e
   rw [ι.upd_ne l e]
   exact (h.blk i x hx).mono (n:=m.nm ι) hext (Mem.aA hm.has hext) (fun _=>rfl)
 ·intro i x hi hx hlx
  rw [hm.lim] at hi
  obtain⟨h1,h2⟩:=hne i x hx hlx
  have ho:=h.own i x hi h2 hlx
  refine⟨fun j y hj hy hly=>?_,fun c e' fz hc=>?_⟩
  ·obtain⟨h3,h4⟩:=hne j y hy hly
   rw [ι.upd_ne l h1,ι.upd_ne l h3];exact ho.alone j y hj h4 hly
  ·rw [ι.upd_ne l h1] at hc;exact ho.free c e' fz hc
 ·intro i hi
  rw [hext i (h.ghas i hi)];exact h.glob i hi
 ·intro i x hx hlx
  obtain⟨h1,h2⟩:=hne i x hx hlx
  rw [ι.upd_ne l h1];exact h.spot i x h2 hlx
 ·intro i hi
  rw [hm.get,if_neg (by have:=hm.le;omega)]
 ·rintro b' ⟨i,x,hi,hx,hlx,rfl⟩
  rw [hm.lim] at hi
  obtain⟨h1,h2⟩:=hne i x hx hlx
  rw [ι.upd_ne l h1]
  exact .inl ⟨i,x,hi,h2,hlx,rfl⟩
end Go.AM
namespace Go.AM
open Go
def awe (ι:Inj)(n:Nm)(done:List (Option Nat))(ls:List o8)(tmps:Array Value):Prop:=
 ∀t k,fK t done 0=some k→∃v,ls[k]?=some v∧v.lt n∧tmps.getD t undef=I4 ι v
structure St (P:Program)(ι:Inj)(n:Nm)(slots:List Nat)(done:List (Option Nat))(ls:List o8)(env:T o8)(tmps:Array Value):Prop where
 ls:awe ι n done ls tmps
 env:aL ι n slots env tmps
 glob:∀i,i<P.globals.size→(ι i).b=i∧(ι i).base=0∧(ι i).spot=none
 gn:∀g,g<P.globals.size→n g
section
variable {P:Program}{G:Mem}{ι:Inj}{n:Nm}{slots:List Nat}{done:List (Option Nat)}{ls:List o8}{env:T o8}{a:Act}
theorem zT (k:Nat):∀(ls:List o8) (env:T o8),trO (.loc k) ls env=ls[k]?.getD .undef:=by
 intro ls env
 match k with
 | 0=>cases ls<;>rfl
 | 1=>match ls with | [] | [_] | _ :: _ :: _=>rfl
 | 2=>match ls with | [] | [_] | [_,_] | _ :: _ :: _ :: _=>rfl
 | 3=>match ls with | [] | [_] | [_,_] | [_,_,_] | _ :: _ :: _ :: _ :: _=>rfl
 | k+4=>show nth (k+4) ls=_;exact KS _ _
theorem Jm (j:Nat)(h:j<2^60)(ls:List o8)(env:T o8):trO (.slot j) ls env=(env.get j).getD .undef:=by
 show way 64 j env=_
 exact UO 64 j env (by have:(2:Nat)^60+1<2^64:=by decide
                       omega)
theorem J2 (s:St P ι n slots done ls env a.tmps){x:Operand}{o:Opd}(h:ak P slots done x=some o):
  a.eval x=I4 ι (trO o ls env)∧(trO o ls env).lt n:=by
 cases x with
 | tmp t=>
  simp only [ak] at h
  cases hk:fK t done 0 with
  | some k=>
   simp only [hk,Option.some.injEq] at h;subst h
   obtain⟨v,h1,h2,h3⟩:=s.ls t k hk
   rw [zT,h1];exact⟨h3,h2⟩
  | none=>
   simp only [hk] at h
   cases hj:idxOf t slots 0 with
   | none=>simp [hj] at h
   | some j=>
    simp only [hj,Option.some.injEq] at h;subst h
    obtain⟨_,v,h1,h2,h3⟩:=s.env.val t j hj
    rw [Jm j (by have:=(mo hj).2.1;have:=s.env.small;omega),h1];exact⟨h3,h2⟩
 | const v=>
  simp only [ak] at h
  cases hv:ofValue v with
  | none=>simp [hv] at h
  | some c=>
   simp only [hv,Option.some.injEq] at h;subst h
   obtain⟨h1,h2⟩:=gM ι v c hv
   exact⟨h1.symm,h2 n⟩
 | global g=>
  simp only [ak] at h
  split at h
  ·rename_i hg
   cases h
   obtain⟨h1,h2,h3⟩:=s.glob g hg
   refine⟨?_,?_⟩
   ·show Value.pointer (some ⟨g,0,none⟩)=.pointer (some (ι.at g 0))
    rw [Inj.zS h3,h1,h2]
   ·exact s.gn g hg
  ·cases h
 | func f=>
  simp only [ak,Option.some.injEq] at h;subst h
  exact⟨by simp [Act.eval,trO,O5,I4,fO,I7],by simp [trO,O5,o8.lt,adS,ltL]⟩
theorem fE (s:St P ι n slots done ls env a.tmps):∀{l:List Operand} {os:List Opd},iD P slots done l=some os→
  l.map a.eval=I7 ι (evs (je os) ls env)∧ltL n (evs (je os) ls env)
 | [],os,h=>by simp only [iD,Option.some.injEq] at h;subst h;simp [je,evs,I7,ltL]
 | x::l,os,h=>by
  simp only [iD] at h
  cases hx:ak P slots done x with
  | none=>simp [hx] at h
  | some o=>
   cases hl:iD P slots done l with
   | none=>simp [hx,hl] at h
   | some r=>
    simp only [hx,hl,Option.some.injEq] at h;subst h
    obtain⟨h1,h2⟩:=J2 s hx
    obtain⟨h3,h4⟩:=fE s hl
    refine⟨?_,?_⟩
    ·show a.eval x::l.map a.eval=I4 ι (trO o ls env)::I7 ι (evs (je r) ls env)
     rw [h1,h3]
    ·exact⟨h2,h4⟩
end
section
variable {P:Program}{G:Mem}{w:World}
theorem run_underlying {t:TypeId}{d:TypeDesc}(h:P.underlying t=some d):(underlying t).run P w=.ok d w:=by simp [underlying,h]
theorem run_sizeOf {t:TypeId}{k:Nat}(h:gG P t=some k):(sizeOf t).run P w=.ok k w:=by
 simp only [gG,Option.map_eq_some_iff] at h
 obtain⟨i,h1,h2⟩:=h
 simp [sizeOf,typeInfo,h1,h2]
theorem mD {t:TypeId}{k:Nat}(h:dV P t=some k):∃i,(typeInfo t).run P w=.ok i w∧i.bytes=k:=by
 simp only [dV,Option.map_eq_some_iff] at h
 obtain⟨i,h1,h2⟩:=h
 exact⟨i,by simp [typeInfo,h1],h2⟩
theorem jD {t:TypeId}{b:Bool}(h:zP P t=some b):(isAgg t).run P w=.ok b w:=by
 simp only [zP] at h
 cases hu:P.underlying t with
 | none=>simp [hu] at h
 | some d=>
  simp only [isAgg,Sem.run_bind,run_underlying hu,Result.andThen_ok]
  cases d<;>simp_all
theorem sW {t:TypeId}{s:Option Nat}(h:partT P t=some s):(s=none∧zP P t=some false∧∃k,gG P t=some k)∨(∃k,s=some k∧zP P t=some true∧gG P t=some k):=by
 simp only [partT] at h
 split at h
 ·rename_i k h1 h2;cases h;exact .inr ⟨k,rfl,h1,h2⟩
 ·rename_i k h1 h2;cases h;exact .inl ⟨rfl,h1,k,h2⟩
 ·cases h
theorem aQ {t:TypeId}{z:List o8}(h:nI P t=some z)(ι:Inj):∃v,(zeroValue t).run P w=.ok v w∧v.cells=(I7 ι z).toArray∧∀n,ltL n z:=by
 simp only [nI] at h
 cases hi:P.info? t with
 | none=>simp [hi] at h
 | some i=>
  cases hz:i.zero with
  | none=>simp [hi,hz] at h
  | some v=>
   cases ha:ofValue v with
   | none=>simp [hi,hz,ha] at h
   | some a=>
    simp only [hi,hz,ha,Option.bind_some,Option.some.injEq] at h;subst h
    obtain⟨h1,h2⟩:=gM ι v a ha
    exact⟨v,by simp [zeroValue,typeInfo,hi,hz],by rw [← h1,iE],fun n=>pQ (h2 n)⟩
theorem jE {t:TypeId}{z:o8}(h:zeroV P t=some z)(ι:Inj):(zeroValue t).run P w=.ok (I4 ι z) w∧∀n,z.lt n:=by
 simp only [zeroV] at h
 cases hi:P.info? t with
 | none=>simp [hi] at h
 | some i=>
  cases hz:i.zero with
  | none=>simp [hi,hz] at h
  | some v=>
   simp only [hi,hz,Option.bind_some] at h
   obtain⟨h1,h2⟩:=gM ι v z h
   exact⟨by simp [zeroValue,typeInfo,hi,hz,h1],h2⟩
end
theorem qp (n:Int)(h:-9223372036854775808≤n∧n<9223372036854775808):IntKind.i64.wrap n=n:=by
 have e1:((2:Int)^IntKind.i64.bits)=18446744073709551616:=rfl
 have e2:((2:Int)^(IntKind.i64.bits-1))=9223372036854775808:=rfl
 unfold IntKind.wrap
 rw [e1,e2]
 show (if (true&&decide (n%18446744073709551616≥9223372036854775808))=true then n%18446744073709551616-18446744073709551616 else n%18446744073709551616)=n
 obtain⟨h1,h2⟩:=h
 by_cases hn:0≤n
 ·have:n%18446744073709551616=n:=Int.emod_eq_of_lt hn (by omega)
  rw [this,if_neg (by simp only [Bool.true_and,decide_eq_true_eq];omega)]
 ·have:n%18446744073709551616=n+18446744073709551616:=by
   rw [← Int.add_emod_right];exact Int.emod_eq_of_lt (by omega) (by omega)
  rw [this,if_pos (by simp only [Bool.true_and,decide_eq_true_eq];omega)]
  omega
theorem UR (n:Int):w64 n=IntKind.i64.wrap n:=by
 cases n with
 | ofNat m=>
  simp only [w64]
  cases h:Nat.blt m 9223372036854775808 with
  | true=>
   have:m<9223372036854775808:=(Eq.mp Nat.blt_eq h)
   have hw:=qp (Int.ofNat m) ⟨by have:(0:Int)≤Int.ofNat m:=Int.natCast_nonneg m
                                 omega,by have:Int.ofNat m=(m:Int):=rfl
                                          omega⟩
   exact (ay _ _).trans hw.symm
  | false=>exact Y8 _ _
 | negSucc m=>
  simp only [w64]
  cases h:Nat.blt m 9223372036854775808 with
  | true=>
   have:m<9223372036854775808:=(Eq.mp Nat.blt_eq h)
   have e:=Int.negSucc_eq m
   have hw:=qp (Int.negSucc m) ⟨by omega,by omega⟩
   exact (ay _ _).trans hw.symm
  | false=>exact Y8 _ _
theorem mE (k:IntKind)(n:Int):iy k n=k.wrap n:=by
 cases k<;>first | exact UR n | rfl
theorem iK (a b:Int):rR a b=(a==b):=by
 cases a with
 | ofNat a=>
  cases b with
  | ofNat b=>
   show Nat.beq a b=_
   by_cases h:a=b
   ·subst h;simp [Nat.beq_refl]
   ·rw [show Nat.beq a b=false from Bool.eq_false_iff.2 fun e=>h (Nat.eq_of_beq_eq_true e)]
    exact (beq_eq_false_iff_ne.2 (fun e=>h (Int.ofNat.inj e))).symm
  | negSucc b=>exact (beq_eq_false_iff_ne.2 (fun e=>by cases e)).symm
 | negSucc a=>
  cases b with
  | ofNat b=>exact (beq_eq_false_iff_ne.2 (fun e=>by cases e)).symm
  | negSucc b=>
   show Nat.beq a b=_
   by_cases h:a=b
   ·subst h;simp [Nat.beq_refl]
   ·rw [show Nat.beq a b=false from Bool.eq_false_iff.2 fun e=>h (Nat.eq_of_beq_eq_true e)]
    exact (beq_eq_false_iff_ne.2 (fun e=>h (Int.negSucc.inj e))).symm
theorem blt_eq (a b:Nat):Nat.blt a b=decide (a<b):=by
 by_cases h:a<b
 ·rw [decide_eq_true h];exact (Eq.mpr Nat.blt_eq h)
 ·rw [decide_eq_false h];exact Bool.eq_false_iff.2 fun e=>h (Eq.mp Nat.blt_eq e)
theorem fq (a b:Int):nG a b=decide (a<b):=by
 cases a with
 | ofNat a=>
  cases b with
  | ofNat b=>exact (blt_eq a b).trans (decide_eq_decide.2 (by show a<b↔(a:Int)<(b:Int);omega))
  | negSucc b=>exact (decide_eq_false (by rw [Int.negSucc_eq];show ¬ (a:Int) < _;omega)).symm
 | negSucc a=>
  cases b with
  | ofNat b=>exact (decide_eq_true (by rw [Int.negSucc_eq];show _<(b:Int);omega)).symm
  | negSucc b=>exact (blt_eq b a).trans (decide_eq_decide.2 (by rw [Int.negSucc_eq,Int.negSucc_eq];omega))
theorem EN (a b:IntKind):kEq a b=decide (a=b):=by cases a<;>cases b<;>rfl
theorem pR:∀a b:List UInt8,strEq a b=(a==b)
 | [],[]=>rfl
 | [],_ :: _=>rfl
 | _ :: _,[]=>rfl
 | x::a,y::b=>by
  show bi (Nat.beq x.toNat y.toNat) (strEq a b) false=_
  rw [pR a b]
  by_cases h:x=y
  ·subst h;simp [Nat.beq_refl]
  ·have:Nat.beq x.toNat y.toNat=false:=by
    rw [Bool.eq_false_iff];intro e
    exact h (UInt8.toNat_inj.1 (Nat.eq_of_beq_eq_true e))
   rw [this];simp [h]
theorem sZ:∀a b:List UInt8,lF a b=Op.bytesLess a b
 | _,[]=>by cases ‹List UInt8› <;> rfl
 | [],_ :: _=>rfl
 | x::a,y::b=>by simp [lF,Op.bytesLess,sZ a b]
end Go.AM
namespace Go.AM
open Go
theorem Inj.jF (ι:Inj)(i o k:Nat):(ι.at i o).add k=ι.at i (o+k):=by
 unfold Addr.add Inj.at
 split
 ·rename_i h;subst h;rfl
 ·rename_i h
  have:¬ (o+k=0):=by omega
  simp [Nat.add_assoc,this]
  intro _ hk;exact absurd hk h
section
variable {β:Type}{v:o8}{r:β}
theorem eO {k:Nat→Nat→Option β}(h:nD v k=some r):∃i o,v=.ptr i o∧k i o=some r:=by
 cases v<;>first | exact⟨_,_,rfl,h⟩ | (simp [nD] at h)
theorem gX {k:IntKind→Int→Option β}(h:wh v k=some r):∃i n,v=.int i n∧k i n=some r:=by
 cases v<;>first | exact⟨_,_,rfl,h⟩ | (simp [wh] at h)
theorem ku {k:Bool→Option β}(h:lT v k=some r):∃b,v=.bool b∧k b=some r:=by
 cases v<;>first | exact⟨_,rfl,h⟩ | (simp [lT] at h)
theorem jG {k:List UInt8→Option β}(h:Br v k=some r):∃s,v=.str s∧k s=some r:=by
 cases v<;>first | exact⟨_,rfl,h⟩ | (simp [Br] at h)
theorem dh {k:List o8→Option β}(h:wm v k=some r):∃l,v=.agg l∧k l=some r:=by
 cases v<;>first | exact⟨_,rfl,h⟩ | (simp [wm] at h)
theorem MU {k:List o8→Option β}(h:KG v k=some r):∃l,v=.tuple l∧k l=some r:=by
 cases v<;>first | exact⟨_,rfl,h⟩ | (simp [KG] at h)
theorem nJ {nl:Option β}{k:Nat→Option β}(h:wo v nl k=some r):(v=.nilMap∧nl=some r)∨∃i,v=.map i∧k i=some r:=by
 cases v<;>first | exact .inl ⟨rfl,h⟩ | exact .inr ⟨_,rfl,h⟩ | (simp [wo] at h)
theorem oD {nl:Option β}{k u:Nat→Nat→Nat→Nat→Option β}(h:vSl v nl k u=some r):
  (v=.nilSlice∧nl=some r)∨(∃a b c d,v=.slice a b c d∧k a b c d=some r)∨∃a b c d,v=.sliceU a b c d∧u a b c d=some r:=by
 cases v<;>first | exact .inl ⟨rfl,h⟩ | exact .inr (.inl ⟨_,_,_,_,rfl,h⟩) | exact .inr (.inr ⟨_,_,_,_,rfl,h⟩) | (simp [vSl] at h)
theorem zU {k:Fn→List o8→List o8→Option β}(h:MJ v k=some r):∃f a b,v=.func f a b∧k f a b=some r:=by
 cases v<;>first | exact⟨_,_,_,rfl,h⟩ | (simp [MJ] at h)
theorem MW {n:Int}{k:Nat→Option β}(h:KH n k=some r):∃m:Nat,n=(m:Int)∧k m=some r:=by
 cases n with
 | ofNat m=>exact⟨m,rfl,h⟩
 | negSucc m=>simp [KH] at h
theorem bJ {k:Nat→Option β}(h:kT v k=some r):∃i,∃m:Nat,v=.int i (m:Int)∧k m=some r:=by
 obtain⟨i,n,rfl,h⟩:=gX h
 obtain⟨m,rfl,h⟩:=MW h
 exact⟨i,m,rfl,h⟩
theorem idx_eq {len:Nat}{k:Nat→Option β}(h:idx len v k=some r):∃i,∃m:Nat,v=.int i (m:Int)∧m<len∧k m=some r:=by
 obtain⟨i,m,rfl,h⟩:=bJ h
 obtain⟨h1,h2⟩:=K8 h
 exact⟨i,m,rfl,Eq.mp Nat.blt_eq h1,h2⟩
end
section
variable {P:Program}{G:Mem}{ι:Inj}{n:Nm}
theorem kC {op:BinOp}{t:TypeId}{x y:Operand}{a b:Value}{w:World}
  (h:∀p q,a≠.agg p∨b≠.agg q) (h':a≠.nilIface∨b≠.nilIface∨rU x=true∨rU y=true):(eqGuard op t x y a b).run P w=.ok () w:=by
 unfold eqGuard
 cases op<;>simp<;>(
  split
  ·rename_i h1 h2
   rcases h' with h' | h' | h' | h'
   ·exact absurd rfl h'
   ·exact absurd rfl h'
   ·cases x<;>simp_all [rU]
   ·cases y<;>simp_all [rU]
  ·rename_i p q
   rcases h p q with h | h<;>exact absurd rfl h
  ·rfl)
theorem wK {op:BinOp}(h1:op≠.shl)(h2:op≠.shr){k:IntKind}{a b:Int}{v:o8}(h:Ja op k a b=some v)(t:TypeId)(w:World):
  (binOp op t (.int k a) (.int k b)).run P w=.ok (I4 ι v) w∧v.lt n:=by
 cases op<;>first
  | exact absurd rfl h1
  | exact absurd rfl h2
  | (simp only [Ja,bG,iA,vY,iEq,iNe,iLt,iLe,iGt,iGe,atV,iOr,atW,Ef,Option.some.injEq] at h
     subst h
     simp [binOp,Op.intArith,Op.intCmp,Op.intBits,I4,o8.lt,mE,iK,fq,Ee,bne]
     done)
  | (simp only [Ja,Bt,zQ,aeL] at h
     have hb:b≠0:=by rintro rfl;simp at h
     split at h
     ·exact absurd rfl hb
     ·cases h
      simp [binOp,Op.intDiv,hb,I4,o8.lt,mE])
  | (simp only [Ja,iLe,iGe,Option.some.injEq] at h
     subst h
     simp [binOp,Op.intCmp,I4,o8.lt,fq]
     rw [Bool.eq_iff_iff];simp)
theorem kD (s:List UInt8):(⟨s.toArray⟩:ByteArray).size=s.length:=by simp [ByteArray.size]
theorem wL {op:BinOp}{a b:List UInt8}{v:o8}(h:Jb op a b=some v)(t:TypeId)(w:World):
  (binOp op t (.string ⟨a.toArray⟩) (.string ⟨b.toArray⟩)).run P w=.ok (I4 ι v) w∧v.lt n:=by
 cases op<;>first
  | (simp only [Jb,O6] at h;cases h;done)
  | (simp only [Jb,sEq,sNe,sLt,sLe,sGt,sGe,Option.some.injEq] at h
     subst h
     simp [binOp,Op.stringOp,I4,o8.lt,pR,sZ]
     done)
  | (simp only [Jb,bI] at h
     obtain⟨h1,h2⟩:=K8 h
     cases h2
     have h3:len' a+len' b<9223372036854775808:=Eq.mp Nat.blt_eq h1
     simp only [P8] at h3
     simp [binOp,Op.stringOp,kD,I4,o8.lt]
     rw [if_neg (by omega)]
     congr 3)
theorem kE {op:BinOp}(h1:op≠.shl)(h2:op≠.shr){x y v:o8}(h:DY (Ja op) (Jb op) x y=some v)(t:TypeId)(w:World):
  (binOp op t (I4 ι x) (I4 ι y)).run P w=.ok (I4 ι v) w∧v.lt n:=by
 cases x<;>try (simp [DY] at h;done)
 ·rename_i k a
  simp only [DY] at h
  obtain⟨k',b,rfl,h⟩:=gX h
  obtain⟨h3,h4⟩:=K8 h
  rw [EN,decide_eq_true_eq] at h3
  subst h3
  exact wK h1 h2 h4 t w
 ·rename_i a
  simp only [DY] at h
  obtain⟨b,rfl,h⟩:=jG h
  exact wL h t w
theorem EO {op:BinOp}{x y v:o8}(h:DY (Ja op) (Jb op) x y=some v):
  (∃k a,x=.int k a)∨∃a,x=.str a:=by
 cases x<;>first | exact .inl ⟨_,_,rfl⟩ | exact .inr ⟨_,rfl⟩ | (simp [DY] at h;done)
theorem wM {x y v:o8}(h:adN x y=some v)(t:TypeId)(w:World):(binOp .shl t (I4 ι x) (I4 ι y)).run P w=.ok (I4 ι v) w∧v.lt n:=by
 simp only [adN] at h
 obtain⟨k,a,rfl,h⟩:=gX h
 obtain⟨i,m,rfl,h⟩:=bJ h
 cases h
 simp [binOp,Op.shift,I4,o8.lt,mE,show ¬ ((m:Int)<0) from by omega]
theorem wN {x y v:o8}(h:TW x y=some v)(t:TypeId)(w:World):(binOp .shr t (I4 ι x) (I4 ι y)).run P w=.ok (I4 ι v) w∧v.lt n:=by
 simp only [TW] at h
 obtain⟨k,a,rfl,h⟩:=gX h
 obtain⟨i,m,rfl,h⟩:=bJ h
 cases h
 simp [binOp,Op.shift,I4,o8.lt,show ¬ ((m:Int)<0) from by omega]
theorem qw (a b:Bool):wz a b=(a==b):=by cases a<;>cases b<;>rfl
theorem kF {x y:o8}{r:Bool}(h:X9 x y=some r):∃k a b,x=.int k a∧y=.int k b∧r=(a==b):=by
 obtain⟨k,a,h0,h1⟩:=gX h
 obtain⟨k',b,h2,h3⟩:=gX h1
 obtain⟨h4,h5⟩:=K8 h3
 rw [EN,decide_eq_true_eq] at h4
 subst h4;cases h5
 exact⟨_,_,_,h0,h2,iK _ _⟩
theorem dN {x y:o8}{r:Bool}(h:lU x y=some r):∃a b,x=.bool a∧y=.bool b∧r=(a==b):=by
 obtain⟨a,h0,h1⟩:=ku h
 obtain⟨b,h2,h3⟩:=ku h1
 cases h3
 exact⟨_,_,h0,h2,qw _ _⟩
theorem kG {x y:o8}{r:Bool}(h:eqStr x y=some r):∃a b,x=.str a∧y=.str b∧r=(a==b):=by
 obtain⟨a,h0,h1⟩:=jG h
 obtain⟨b,h2,h3⟩:=jG h1
 cases h3
 exact⟨_,_,h0,h2,pR _ _⟩
end
end Go.AM
namespace Go.AM
open Go
section
variable {P:Program}{G:Mem}{ι:Inj}{n:Nm}
theorem fF (a b:List o8):aN [] a b=some true:=rfl
theorem dO (k:PK)(ks:List PK)(x y:o8)(a b:List o8):aN (k::ks) (x::a) (y::b)=ob (KI k x y) fun r=>bi r (aN ks a b) (some false):=rfl
theorem dP {k:PK}{ks:List PK}{a b:List o8}{r:Bool}(h:aN (k::ks) a b=some r):
  ∃x xs y ys s,a=x::xs∧b=y::ys∧KI k x y=some s∧bi s (aN ks xs ys) (some false)=some r:=by
 cases a with
 | nil=>cases h
 | cons x xs=>
  cases b with
  | nil=>cases h
  | cons y ys=>
   rw [dO] at h
   obtain⟨s,h1,h2⟩:=J7 h
   exact⟨x,xs,y,ys,s,rfl,rfl,h1,h2⟩
theorem CQ (ks ms:List PK):∀(a b:List o8) (r:Bool),aN (ks++ms) a b=some r→
  (aN ks a b=some false∧r=false)∨(aN ks a b=some true∧aN ms (a.drop ks.length) (b.drop ks.length)=some r):=by
 induction ks with
 | nil=>intro a b r h;right;exact⟨rfl,by simpa using h⟩
 | cons k ks ih=>
  intro a b r h
  obtain⟨x,xs,y,ys,s,rfl,rfl,h1,h2⟩:=dP h
  rw [dO,h1]
  cases s with
  | false=>left;cases h2;exact⟨rfl,rfl⟩
  | true=>simpa using ih xs ys r h2
theorem qx (ks:List PK):∀(m:Nat) (a b:List o8),ks.length≤m→aN ks (a.take m) (b.take m)=aN ks a b:=by
 induction ks with
 | nil=>intro m a b _;rfl
 | cons k ks ih=>
  intro m a b h
  obtain⟨m,rfl⟩:∃m',m=m'+1:=⟨m-1,by simp at h;omega⟩
  cases a with
  | nil=>rfl
  | cons x xs=>
   cases b with
   | nil=>rfl
   | cons y ys=>
    rw [List.take_succ_cons,List.take_succ_cons,dO,dO,ih m xs ys (by simpa using h)]
def mkV (ι:Inj)(agg:Bool)(l:List o8):Value:=if agg then .agg (I7 ι l).toArray else I4 ι (l.headD .undef)
theorem wO (ι:Inj)(l:List o8)(o k:Nat):((I7 ι l).toArray.extract o (o+k))=(I7 ι ((l.drop o).take k)).toArray:=by
 rw [List.extract_toArray]
 congr 1
 rw [Y9,Y9,List.extract_eq_take_drop,Nat.add_sub_cancel_left]
 simp [List.map_take,List.map_drop]
theorem mF {t:TypeId}{agg:Bool}{k:Nat}(ha:zP P t=some agg)(hs:gG P t=some k)(l:List o8)(o:Nat)(hl:agg=false→o<l.length∧k=1)(w:World):
  (part t (I7 ι l).toArray o).run P w=.ok (mkV ι agg ((l.drop o).take k)) w:=by
 simp only [part,Sem.run_bind,jD ha,Result.andThen_ok]
 cases agg with
 | true=>
  simp only [if_true,Sem.run_bind,run_sizeOf hs,Result.andThen_ok,Sem.run_pure,wO];rfl
 | false=>
  obtain⟨h,rfl⟩:=hl rfl
  have:(I7 ι l).toArray[o]?=some (I4 ι l[o]):=by simp [Y1,List.getElem?_eq_getElem h]
  simp only [Bool.false_eq_true,if_false,this,mkV,Sem.run_pure]
  congr 2
  rw [List.drop_eq_getElem_cons h];rfl
theorem uN {t:TypeId}{k:IntKind}(h:P.underlying t=some (.int k)):zP P t=some false:=by simp [zP,h]
theorem EP {t:TypeId}(h:P.underlying t=some .bool):zP P t=some false:=by simp [zP,h]
theorem zV {t:TypeId}(h:P.underlying t=some .string):zP P t=some false:=by simp [zP,h]
theorem iL {t:TypeId}{fs:Array Field}(h:P.underlying t=some (.struct fs)):zP P t=some true:=by simp [zP,h]
theorem lG {t:TypeId}{k:IntKind}(h:P.underlying t=some (.int k)){x y:o8}{r:Bool}(he:X9 x y=some r)(d:Nat)(w:World):
  (Op.equalIn (d+1) t (I4 ι x) (I4 ι y)).run P w=.ok r w:=by
 obtain⟨k,a,b,rfl,rfl,rfl⟩:=kF he
 simp [Op.equalIn,run_underlying h,I4]
theorem oF {t:TypeId}(h:P.underlying t=some .bool){x y:o8}{r:Bool}(he:lU x y=some r)(d:Nat)(w:World):
  (Op.equalIn (d+1) t (I4 ι x) (I4 ι y)).run P w=.ok r w:=by
 obtain⟨a,b,rfl,rfl,rfl⟩:=dN he
 simp [Op.equalIn,run_underlying h,I4]
theorem iM (a b:List UInt8):((⟨a.toArray⟩:ByteArray)==⟨b.toArray⟩)=(a==b):=by
 show ByteArray.beq _ _=_
 simp [ByteArray.beq]
theorem qy {t:TypeId}(h:P.underlying t=some .string){x y:o8}{r:Bool}(he:eqStr x y=some r)(d:Nat)(w:World):
  (Op.equalIn (d+1) t (I4 ι x) (I4 ι y)).run P w=.ok r w:=by
 obtain⟨a,b,rfl,rfl,rfl⟩:=kG he
 simp [Op.equalIn,run_underlying h,I4,iM]
def eD (d:Nat)(X Y:Array Value):List Field→Sem Bool
 | []=>pure true
 | f::l=>do
  if f.name≠ "_" then
   if !(← Op.equalIn d f.type (← part f.type X f.offset) (← part f.type Y f.offset)) then return false
  eD d X Y l
theorem wP (d:Nat)(X Y:Array Value)(l:List Field):
  (do
   let s ← forIn l ((none,()):Option Bool×Unit) fun f _=>
    if f.name≠ "_" then do
     let a ← part f.type X f.offset
     let b ← part f.type Y f.offset
     let e ← Op.equalIn d f.type a b
     if (!e)=true then pure (ForInStep.done (some false,())) else pure (ForInStep.yield (none,()))
    else pure (ForInStep.yield (none,()))
   match s.fst with
   | some r=>pure r
   | none=>pure true:Sem Bool)=eD d X Y l:=by
 induction l with
 | nil=>simp [eD]
 | cons f l ih=>
  rw [List.forIn_cons]
  simp only [eD]
  rw [← ih]
  by_cases hf:f.name= "_"
  ·simp [hf]
  ·simp only [ne_eq,hf,not_false_eq_true,if_true,bind_assoc]
   congr 1;funext a
   congr 1;funext b
   congr 1;funext e
   cases e<;>simp
theorem rX {t:TypeId}{fs:Array Field}(h:P.underlying t=some (.struct fs))(hs:P.stoodInHeld t=false)(X Y:Array Value)(d:Nat)(w:World):
  (Op.equalIn (d+1) t (.agg X) (.agg Y)).run P w=(eD d X Y fs.toList).run P w:=by
 simp only [Op.equalIn,Sem.run_bind,run_underlying h,Result.andThen_ok,run_program,hs]
 rw [← Array.forIn_toList,← wP]
 simp
 congr 1
 funext a w'
 obtain⟨o,u⟩:=a
 cases o<;>rfl
theorem wQ:∀(d:Nat) (t:TypeId) (ks:List PK),cO P d t=some ks→∃agg,zP P t=some agg∧gG P t=some ks.length∧(agg=false→ks.length=1)∧
  ∀D,d≤D→∀(a b:List o8) (r:Bool),aN ks a b=some r→∀w,(Op.equalIn D t (mkV ι agg a) (mkV ι agg b)).run P w=.ok r w:=by
 intro d
 induction d with
 | zero=>intro t ks h;simp [cO] at h
 | succ d ih=>
  intro t ks h
  simp only [cO] at h
  cases hu:P.underlying t with
  | none=>simp [hu] at h
  | some u=>
   rw [hu] at h
   cases u<;>try (simp at h;done)
   ·
    simp only at h
    split at h
    ·rename_i hz;cases h
     refine⟨false,EP hu,hz,fun _=>rfl,fun D hD a b r he w=>?_⟩
     obtain⟨x,xs,y,ys,s,rfl,rfl,h1,h2⟩:=dP he
     obtain⟨D,rfl⟩:∃D',D=D'+1:=⟨D-1,by omega⟩
     have:s=r:=by cases s<;>simpa [fF] using h2
     subst this
     exact oF hu h1 D w
    ·cases h
   ·simp only at h
    split at h
    ·rename_i hz;cases h
     refine⟨false,uN hu,hz,fun _=>rfl,fun D hD a b r he w=>?_⟩
     obtain⟨x,xs,y,ys,s,rfl,rfl,h1,h2⟩:=dP he
     obtain⟨D,rfl⟩:∃D',D=D'+1:=⟨D-1,by omega⟩
     have:s=r:=by cases s<;>simpa [fF] using h2
     subst this
     exact lG hu h1 D w
    ·cases h
   ·simp only at h
    split at h
    ·rename_i hz;cases h
     refine⟨false,zV hu,hz,fun _=>rfl,fun D hD a b r he w=>?_⟩
     obtain⟨x,xs,y,ys,s,rfl,rfl,h1,h2⟩:=dP he
     obtain⟨D,rfl⟩:∃D',D=D'+1:=⟨D-1,by omega⟩
     have:s=r:=by cases s<;>simpa [fF] using h2
     subst this
     exact qy hu h1 D w
    ·cases h
   ·rename_i fs
    simp only at h
    cases hf:jB (cO P d) fs.toList 0 with
    | none=>simp [hf] at h
    | some ks'=>
     simp only [hf] at h
     split at h
     ·rename_i hz
      cases h
      refine⟨true,iL hu,hz.2,(fun h=>by cases h),fun D hD a b r he w=>?_⟩
      obtain⟨D,rfl⟩:∃D',D=D'+1:=⟨D-1,by omega⟩
      simp only [mkV,if_true]
      rw [rX hu hz.1]
      have key:∀(l:List Field) (off:Nat) (ks₁:List PK) (pre:List PK),ks=pre++ks₁→pre.length=off→jB (cO P d) l off=some ks₁→
        ∀r,aN ks₁ (a.drop off) (b.drop off)=some r→(eD D (I7 ι a).toArray (I7 ι b).toArray l).run P w=.ok r w:=by
       intro l
       induction l with
       | nil=>
        intro off ks₁ pre _ _ hl r hr
        simp only [jB,Option.some.injEq] at hl;subst hl
        rw [fF] at hr;cases hr
        simp [eD]
       | cons f l ihl=>
        intro off ks₁ pre hks hpre hl r hr
        simp only [jB] at hl
        split at hl
        ·rename_i hn
         cases hk:cO P d f.type with
         | none=>simp [hk] at hl
         | some kf=>
          simp only [hk] at hl
          cases hrest:jB (cO P d) l (off+kf.length) with
          | none=>simp [hrest] at hl
          | some kr=>
           simp only [hrest,Option.some.injEq] at hl;subst hl
           obtain⟨agg,ha,hsz,h1,hE⟩:=ih f.type kf hk
           have hne:∀(c:List o8),(a=c∨b=c)→agg=false→off<c.length∧kf.length=1:=by
            intro c hc hagg
            have h1':=h1 hagg
            refine⟨?_,h1'⟩
            cases kf with
            | nil=>simp at h1'
            | cons k0 kf=>
             obtain⟨x,xs,y,ys,s,e1,e2,_,_⟩:=dP hr
             rcases hc with rfl | rfl
             ·have:=congrArg List.length e1;simp at this;omega
             ·have:=congrArg List.length e2;simp at this;omega
           simp only [eD,if_pos hn.1,Sem.run_bind]
           rw [hn.2,mF ha hsz _ _ (hne a (.inl rfl)),Result.andThen_ok,mF ha hsz _ _ (hne b (.inr rfl)),Result.andThen_ok]
           rcases CQ kf kr _ _ r hr with⟨e1,rfl⟩ | ⟨e1,e2⟩
           ·rw [hE D (by omega) _ _ _ ((qx kf _ _ _ (Nat.le_refl _)).trans e1) w];simp
           ·rw [hE D (by omega) _ _ _ ((qx kf _ _ _ (Nat.le_refl _)).trans e1) w]
            simp only [Result.andThen_ok,Bool.not_true,Bool.false_eq_true,if_false]
            refine ihl (off+kf.length) kr (pre++kf) (by rw [hks];simp) (by simp [hpre]) hrest r ?_
            simpa [List.drop_drop] using e2
        ·cases hl
      exact key fs.toList 0 ks [] rfl rfl hf r (by simpa using he)
     ·cases h
end
end Go.AM
namespace Go.AM
open Go
section
variable {P:Program}{G:Mem}{ι:Inj}{n:Nm}
theorem KT {t:TypeId}{x y:o8}{r:Bool}(hx:(∀k a,x≠.int k a)∧∀s,x≠.str s)(h:∀w,(Op.equal t (I4 ι x) (I4 ι y)).run P w=.ok r w)(w:World):
  (binOp .eql t (I4 ι x) (I4 ι y)).run P w=.ok (.bool r) w∧(binOp .neq t (I4 ι x) (I4 ι y)).run P w=.ok (.bool (!r)) w:=by
 have e1:binOp .eql t (I4 ι x) (I4 ι y)=(do pure (.bool (← Op.equal t (I4 ι x) (I4 ι y)))):=by
  cases x<;>simp_all [I4,binOp]
 have e2:binOp .neq t (I4 ι x) (I4 ι y)=(do pure (.bool (!(← Op.equal t (I4 ι x) (I4 ι y))))):=by
  cases x<;>simp_all [I4,binOp]
 rw [e1,e2]
 simp [h]
theorem zW {t e:TypeId}(hu:P.underlying t=some (.pointer e)){x y:o8}{r:Bool}(he:Eh x y=some r)(d:Nat)(w:World):
  (Op.equalIn (d+1) t (I4 ι x) (I4 ι y)).run P w=.ok r w:=by
 cases x<;>cases y<;>simp only [Eh,Option.some.injEq,reduceCtorEq] at he<;>subst he<;>simp [Op.equalIn,run_underlying hu,I4]
theorem uO {t e:TypeId}(hu:P.underlying t=some (.slice e)){x y:o8}{r:Bool}(he:dK x y=some r)(d:Nat)(w:World):
  (Op.equalIn (d+1) t (I4 ι x) (I4 ι y)).run P w=.ok r w:=by
 cases x<;>cases y<;>simp only [dK,Option.some.injEq,reduceCtorEq] at he<;>subst he<;>simp [Op.equalIn,run_underlying hu,I4]
theorem zX {t k e:TypeId}(hu:P.underlying t=some (.map k e)){x y:o8}{r:Bool}(he:Ei x y=some r)(d:Nat)(w:World):
  (Op.equalIn (d+1) t (I4 ι x) (I4 ι y)).run P w=.ok r w:=by
 cases x<;>cases y<;>simp only [Ei,Option.some.injEq,reduceCtorEq] at he<;>subst he<;>simp [Op.equalIn,run_underlying hu,I4]
theorem wR {t:TypeId}{a b:Array TypeId}{c:Bool}(hu:P.underlying t=some (.func a b c)){x y:o8}{r:Bool}(he:wB x y=some r)(d:Nat)(w:World):
  (Op.equalIn (d+1) t (I4 ι x) (I4 ι y)).run P w=.ok r w:=by
 cases x<;>cases y<;>simp only [wB,Option.some.injEq,reduceCtorEq] at he<;>subst he<;>simp [Op.equalIn,run_underlying hu,I4]
theorem uP {t:TypeId}{ms:Array (String×TypeId)}(hu:P.underlying t=some (.interface ms)){x y:o8}{r:Bool}(he:qc x y=some r)(d:Nat)(w:World):
  (Op.equalIn (d+1) t (I4 ι x) (I4 ι y)).run P w=.ok r w:=by
 cases x<;>cases y<;>simp only [qc,Option.some.injEq,reduceCtorEq] at he<;>subst he<;>simp [Op.equalIn,run_underlying hu,I4]
theorem wS {c:Bool}{t:TypeId}{k:EqK}(hk:eqT P c t=some k){x y:o8}{r:Bool}(he:vZ k x y=some r)(d:Nat)(hd:10≤d+1)(w:World):
  (Op.equalIn (d+1) t (I4 ι x) (I4 ι y)).run P w=.ok r w:=by
 simp only [eqT] at hk
 cases hu:P.underlying t with
 | none=>simp [hu] at hk
 | some u=>
  rw [hu] at hk
  cases u<;>try (simp at hk;done)
  ·simp only [Option.some.injEq] at hk;subst hk;exact oF hu he d w
  ·simp only [Option.some.injEq] at hk;subst hk;exact lG hu he d w
  ·simp only [Option.some.injEq] at hk;subst hk;exact qy hu he d w
  ·simp only [Option.some.injEq] at hk;subst hk;exact zW hu he d w
  ·simp only [Option.some.injEq] at hk;subst hk;exact uO hu he d w
  ·simp only [Option.some.injEq] at hk;subst hk;exact zX hu he d w
  ·rename_i fs
   simp only at hk
   cases hf:cO P 10 t with
   | none=>simp [hf] at hk
   | some ks=>
    simp only [hf] at hk
    split at hk
    ·cases hk
     obtain⟨l,rfl,h1⟩:=dh he
     obtain⟨m,rfl,h2⟩:=dh h1
     obtain⟨agg,ha,hsz,h3,h4⟩:=wQ (P:=P) (ι:=ι) 10 t ks hf
     rw [iL hu] at ha;cases ha
     have:=h4 (d+1) hd l m r h2 w
     simpa [mkV,I4] using this
    ·cases hk
  ·simp only [Option.some.injEq] at hk;subst hk;exact wR hu he d w
  ·simp only at hk
   split at hk
   ·cases hk;exact uP hu he d w
   ·cases hk
theorem qz {c:Bool}{t:TypeId}{k:EqK}(hk:eqT P c t=some k){x y:o8}{r:Bool}(he:vZ k x y=some r)(w:World):
  (Op.equal t (I4 ι x) (I4 ι y)).run P w=.ok r w:=wS hk he 9999 (by omega) w
theorem Jo {c:Bool}{t:TypeId}{k:EqK}(hk:eqT P c t=some k)(hki:k≠.prim .i)(hks:k≠.prim .s){x y:o8}{r:Bool}(he:vZ k x y=some r)(w:World):
  (binOp .eql t (I4 ι x) (I4 ι y)).run P w=.ok (.bool r) w∧(binOp .neq t (I4 ι x) (I4 ι y)).run P w=.ok (.bool (!r)) w:=by
 refine KT ?_ (fun w=>qz hk he w) w
 cases k<;>first
  | (rename_i p;cases p<;>first
    | exact absurd rfl hki
    | exact absurd rfl hks
    | (obtain⟨a,b,rfl,rfl,rfl⟩:=dN he;simp))
  | (obtain⟨l,rfl,_⟩:=dh he;simp)
  | (cases x<;>cases y<;>simp [vZ,Eh,dK,Ei,wB,qc] at he ⊢)
def jH (d:Nat)(e:TypeId)(X Y:Array Value):List Nat→Sem Bool
 | []=>pure true
 | i::l=>do
  if !(← Op.equalIn d e (← part e X (i*1)) (← part e Y (i*1))) then return false
  jH d e X Y l
theorem CR (d:Nat)(e:TypeId)(X Y:Array Value)(l:List Nat):
  (do
   let s ← forIn l ((none,()):Option Bool×Unit) fun i _=>do
       let a ← part e X (i*1)
       let b ← part e Y (i*1)
       let r ← Op.equalIn d e a b
       if (!r)=true then pure (ForInStep.done (some false,())) else pure (ForInStep.yield (none,()))
   match s.fst with
   | some r=>pure r
   | none=>pure true:Sem Bool)=jH d e X Y l:=by
 induction l with
 | nil=>simp [jH]
 | cons f l ih=>
  rw [List.forIn_cons]
  simp only [jH]
  rw [← ih]
  simp only [bind_assoc]
  congr 1;funext a
  congr 1;funext b
  congr 1;funext r
  cases r<;>simp
theorem uQ {t e:TypeId}{k:Nat}(h:P.underlying t=some (.array k e))(hs:gG P e=some 1)(X Y:Array Value)(d:Nat)(w:World):
  (Op.equalIn (d+1) t (.agg X) (.agg Y)).run P w=(jH d e X Y (List.range k)).run P w:=by
 simp only [Op.equalIn,Sem.run_bind,run_underlying h,Result.andThen_ok,run_sizeOf hs]
 rw [Std.Legacy.Range.forIn_eq_forIn_range']
 rw [← CR,List.range_eq_range']
 simp
 congr 1
 funext a w'
 obtain⟨o,u⟩:=a
 cases o<;>rfl
theorem ER {e:TypeId}{kk:IntKind}(hu:P.underlying e=some (.int kk))(hs:gG P e=some 1)(a b:List o8)(d:Nat)(w:World):∀(j off:Nat) (r:Bool),
  aN (List.replicate j .i) (a.drop off) (b.drop off)=some r→(jH (d+1) e (I7 ι a).toArray (I7 ι b).toArray (List.range' off j)).run P w=.ok r w:=by
 intro j
 induction j with
 | zero=>
  intro off r h
  rw [List.replicate_zero,fF] at h
  cases h
  simp [jH]
 | succ j ih=>
  intro off r h
  rw [List.replicate_succ] at h
  obtain⟨x,xs,y,ys,s,h1,h2,h3,h4⟩:=dP h
  have la:off<a.length:=by have:=congrArg List.length h1;simp at this;omega
  have lb:off<b.length:=by have:=congrArg List.length h2;simp at this;omega
  have ha:=mF (P:=P) (ι:=ι) (uN hu) hs a off (fun _=>⟨la,rfl⟩) w
  have hb:=mF (P:=P) (ι:=ι) (uN hu) hs b off (fun _=>⟨lb,rfl⟩) w
  rw [h1] at ha
  rw [h2] at hb
  have ha:(part e (I7 ι a).toArray off).run P w=.ok (I4 ι x) w:=ha
  have hb:(part e (I7 ι b).toArray off).run P w=.ok (I4 ι y) w:=hb
  have he:=lG (ι:=ι) hu h3 d w
  rw [List.range'_succ]
  simp only [jH,Nat.mul_one,Sem.run_bind,ha,hb,he,Result.andThen_ok]
  cases s with
  | false=>
   have h4:some false=some r:=h4
   cases h4
   simp
  | true=>
   have h4:aN (List.replicate j .i) xs ys=some r:=h4
   simp only [Bool.not_true,Bool.false_eq_true,if_false]
   refine ih (off+1) r ?_
   have e1:a.drop (off+1)=xs:=by rw [← List.drop_drop,h1];rfl
   have e2:b.drop (off+1)=ys:=by rw [← List.drop_drop,h2];rfl
   rw [e1,e2];exact h4
theorem qA {t:TypeId}{k:EqK}(h:adQ P t=some k):∃n e kk,P.underlying t=some (.array n e)∧P.underlying e=some (.int kk)∧gG P e=some 1∧P.eqGuardType P.depth t=false∧k=.flat (List.replicate n .i):=by
 unfold adQ at h
 split at h
 ·rename_i n e hu
  split at h
  ·rename_i kk he
   split at h
   ·rename_i hc
    cases h
    exact⟨n,e,kk,hu,he,hc.1,hc.2,rfl⟩
   ·cases h
  ·cases h
 ·cases h
theorem nK {c:Bool}{t:TypeId}{k:EqK}(h:UN P c t=some k):eqT P c t=some k∨adQ P t=some k:=by
 unfold UN at h
 split at h
 ·rename_i k' hk;cases h;exact .inl hk
 ·exact .inr h
theorem ES {c:Bool}{t:TypeId}{k:EqK}(hk:UN P c t=some k)(hki:k≠.prim .i)(hks:k≠.prim .s){x y:o8}{r:Bool}(he:vZ k x y=some r)(w:World):
  (binOp .eql t (I4 ι x) (I4 ι y)).run P w=.ok (.bool r) w∧(binOp .neq t (I4 ι x) (I4 ι y)).run P w=.ok (.bool (!r)) w:=by
 rcases nK hk with hk | hk
 ·exact Jo hk hki hks he w
 ·obtain⟨n,e,kk,hu,hue,hs,_,rfl⟩:=qA hk
  obtain⟨l,rfl,h1⟩:=dh he
  obtain⟨m,rfl,h2⟩:=dh h1
  refine KT (by simp) (fun w=>?_) w
  have:Op.equal t (I4 ι (.agg l)) (I4 ι (.agg m))=Op.equalIn (9999+1) t (.agg (I7 ι l).toArray) (.agg (I7 ι m).toArray):=by simp [I4,Op.equal,Op.maxDepth]
  rw [this,uQ hu hs,List.range_eq_range']
  exact ER hue hs l m 9998 w n 0 r (by simpa using h2)
end
end Go.AM
namespace Go.AM
open Go
section
variable {P:Program}{G:Mem}{ι:Inj}{n:Nm}{slots:List Nat}{done:List (Option Nat)}{ls:List o8}{env:T o8}{a:Act}
def Gives (P:Program)(ρ:Operand→Value)(op:Op)(v:Value):Prop:=
 ∀(o:Oper),o.op=op→∀w,(execOp ρ o).run P w=.ok (.value v) w
theorem fQ {op:BinOp}(h1:op≠.eql)(h2:op≠.neq){t:TypeId}{x y:Operand}{u v:Value}{w:World}:(eqGuard op t x y u v).run P w=.ok () w:=by
 unfold eqGuard
 cases op<;>first | exact absurd rfl h1 | exact absurd rfl h2 | simp
theorem zY {op:BinOp}{t:TypeId}{x y:Operand}{u v:Array Value}{w:World}(h:P.eqGuardType P.depth t=false):(eqGuard op t x y (.agg u) (.agg v)).run P w=.ok () w:=by
 unfold eqGuard
 cases op<;>simp [h]
theorem jI {op:BinOp}{t:TypeId}{x y:Operand}{yt:TypeId}{ρ:Operand→Value}{v:Value}
  (hg:∀w,(eqGuard op t x y (ρ x) (ρ y)).run P w=.ok () w) (h:∀w,(binOp op t (ρ x) (ρ y)).run P w=.ok v w):Gives P ρ (.binOp op t x y yt) v:=by
 intro o ho w
 simp [execOp,ho,hg,h]
theorem bind_eq {α β:Type}{o:Option α}{f:α→Option β}{b:β}(h:(o >>= f)=some b):∃a,o=some a∧f a=some b:=by
 cases o with
 | none=>cases h
 | some a=>exact⟨a,rfl,h⟩
theorem Jp (p:Nat×Nat×OF)(ps:List (Nat×Nat×OF))(ls:List o8)(env:T o8)(cs:List o8):
  lay (p::ps) ls env cs=bi (Nat.beq (len' (p.2.2 ls env).cells) p.2.1) (bi (Nat.ble (Nat.add p.1 p.2.1) (len' cs)) (lay ps ls env (jq p.1 (p.2.2 ls env).cells cs)) none) none:=rfl
theorem pG (vs:List Value):∀(A:Array Value) (off i:Nat),off+i+vs.length≤A.size→
  ((vs.zipIdx i).foldl (fun cs (p:Value×Nat)=>cs.setIfInBounds (off+p.2) p.1) A).toList=A.toList.take (off+i)++(vs++A.toList.drop (off+i+vs.length)):=by
 induction vs with
 | nil=>intro A off i h;simp
 | cons v vs ih=>
  intro A off i h
  simp only [List.zipIdx_cons,List.foldl_cons,List.length_cons] at h ⊢
  rw [ih _ _ _ (by simp;omega)]
  simp only [Array.toList_setIfInBounds]
  have hlt:off+i<A.toList.length:=by simp;omega
  rw [List.take_set,show off+(i+1)=off+i+1 from by omega]
  rw [List.drop_set_of_lt (by omega)]
  rw [List.take_succ_eq_append_getElem hlt,List.set_append_right _ _ (by simp;omega)]
  simp [show min (off+i) A.size=off+i from by simp at hlt;omega]
  congr 1;omega
theorem qB (s:St P ι n slots done ls env a.tmps)(place:Nat→Option (Nat×Nat)):∀(parts:List (Nat×Operand)) (ps:List (Nat×Nat×Opd)),
  ow P slots done place parts=some ps→∀(cs r:List o8),ltL n cs→lay (Cz ps) ls env cs=some r→
   Instr.fill place (I7 ι cs).toArray (parts.map fun p=>(p.1,a.eval p.2))=some (I7 ι r).toArray∧ltL n r∧r.length=cs.length:=by
 intro parts
 induction parts with
 | nil=>
  intro ps h cs r hcs hr
  simp only [ow,Option.some.injEq] at h;subst h
  cases hr
  exact⟨rfl,hcs,rfl⟩
 | cons p parts ih=>
  intro ps h cs r hcs hr
  simp only [ow] at h
  split at h
  ·rename_i off size x rest hp hx hrest
   cases h
   simp only [Cz,Jp] at hr
   obtain⟨h1,hr⟩:=K8 hr
   obtain⟨h2,hr⟩:=K8 hr
   obtain⟨e1,e2⟩:=J2 s hx
   simp only [P8] at h1 h2
   have h1':=Nat.eq_of_beq_eq_true h1
   have h2':off+size≤cs.length:=Nat.le_of_ble_eq_true h2
   have hlen:off+((trO x ls env).cells).length≤cs.length:=by omega
   have hov:=oC off ((trO x ls env).cells) cs hlen
   obtain⟨g1,g2,g3⟩:=ih rest hrest _ r (by
    rw [aK] at hcs ⊢
    intro v hv
    rw [gK off _ cs (by omega)] at hv
    simp only [List.mem_append] at hv
    rcases hv with hv | hv | hv
    ·exact hcs v (List.mem_of_mem_take hv)
    ·exact aK.1 (pQ e2) v hv
    ·exact hcs v (List.mem_of_mem_drop hv)) hr
   refine⟨?_,g2,by rw [g3,hov]⟩
   simp only [List.map_cons,Instr.fill,hp]
   rw [e1,iE]
   simp only [List.size_toArray,U3]
   rw [if_neg (by simp [h1'];omega)]
   rw [← g1]
   congr 1
   have hf:=pG (I7 ι (trO x ls env).cells) (I7 ι cs).toArray off 0 (by simp;omega)
   apply Array.toList_inj.1
   rw [← Array.foldl_toList]
   simp only [Array.toList_zipIdx]
   refine hf.trans ?_
   simp only [Y9,gK off _ cs (show off≤cs.length by omega),List.map_append,List.map_take,List.map_drop,List.length_map,Nat.add_zero]
  ·cases h
theorem uR:∀(fs:List Field) (pl:List (Nat×Nat)),placesOf P fs=some pl→∀w,
  ((fs.mapM fun f=>do pure (f.offset,← sizeOf f.type):Sem (List (Nat×Nat)))).run P w=.ok pl w:=by
 intro fs
 induction fs with
 | nil=>intro pl h w;simp only [placesOf,Option.some.injEq] at h;subst h;simp
 | cons f fs ih=>
  intro pl h w
  simp only [placesOf] at h
  split at h
  ·rename_i s r h1 h2
   cases h
   have ih':=ih r h2 w
   simp only [bind_pure_comp] at ih'
   simp [List.mapM_cons,run_sizeOf h1,ih']
  ·cases h
theorem zZ (s:St P ι n slots done ls env a.tmps){t:TypeId}{parts:Array (Nat×Operand)}{o:AOp}(h:qj P slots done t parts.toList=some o):
  ∃zero ps,o=.p (.build zero ps)∧∀v,trP (.build zero ps) ls env=some v→v.lt n∧Gives P a.eval (.build t parts) (I4 ι v):=by
 simp only [qj] at h
 have harr:(parts.map fun p=>(p.1,a.eval p.2)).toList=parts.toList.map fun p=>(p.1,a.eval p.2):=by simp
 split at h
 ·rename_i zero fields hz hu
  split at h
  ·rename_i pl hpl
   split at h
   ·rename_i ps hps
    cases h
    refine⟨zero,ps,rfl,fun v hv=>?_⟩
    obtain⟨r,h1,h2⟩:=J7 hv
    cases h2
    obtain⟨z,hz1,hz2,hz3⟩:=aQ (P:=P) (w:=default) hz ι
    obtain⟨g1,g2,_⟩:=qB s _ parts.toList ps hps zero r (hz3 n) h1
    refine⟨g2,fun o ho w=>?_⟩
    obtain⟨z,hz1,hz2,hz3⟩:=aQ (P:=P) (w:=w) hz ι
    simp only [execOp,ho,Instr.build,Sem.run_bind,hz1,Result.andThen_ok,run_underlying hu,hz2]
    have hm:=uR (P:=P) fields.toList pl hpl w
    have hmm:(fields.mapM fun f=>do pure (f.offset,← sizeOf f.type):Sem (Array (Nat×Nat)))=List.toArray <$> (fields.toList.mapM fun f=>do pure (f.offset,← sizeOf f.type):Sem (List (Nat×Nat))):=by
     rw [← List.mapM_toArray]
    rw [hmm]
    simp only [Sem.run_map,hm,Result.andThen_ok,harr]
    have hfun:(fun x:Nat=>pl.toArray[x]?)=fun i:Nat=>pl[i]?:=by funext i;simp
    rw [hfun,g1]
    simp [I4]
   ·cases h
  ·cases h
 ·rename_i zero k elem hz hu
  split at h
  ·rename_i sz hsz
   split at h
   ·rename_i ps hps
    cases h
    refine⟨zero,ps,rfl,fun v hv=>?_⟩
    obtain⟨r,h1,h2⟩:=J7 hv
    cases h2
    obtain⟨z,hz1,hz2,hz3⟩:=aQ (P:=P) (w:=default) hz ι
    obtain⟨g1,g2,_⟩:=qB s _ parts.toList ps hps zero r (hz3 n) h1
    refine⟨g2,fun o ho w=>?_⟩
    obtain⟨z,hz1,hz2,hz3⟩:=aQ (P:=P) (w:=w) hz ι
    simp only [execOp,ho,Instr.build,Sem.run_bind,hz1,Result.andThen_ok,run_underlying hu,hz2,run_sizeOf hsz,harr]
    rw [g1]
    simp [I4]
   ·cases h
  ·cases h
 ·cases h
end
end Go.AM
namespace Go.AM
open Go
section
variable {P:Program}{G:Mem}{ι:Inj}{n:Nm}{slots:List Nat}{done:List (Option Nat)}{ls:List o8}{env:T o8}{a:Act}
theorem oG {α:Type}(p q:Nat)(x y:α):bi (Nat.beq p q) x y=if p=q then x else y:=by
 by_cases h:p=q
 ·subst h;rw [Nat.beq_refl,if_pos rfl];rfl
 ·rw [show Nat.beq p q=false from Bool.eq_false_iff.2 fun e=>h (Nat.eq_of_beq_eq_true e),if_neg h];rfl
theorem O4 {l:List o8}{v:o8}(h:ltL n l)(hv:v∈l):v.lt n:=aK.1 h v hv
noncomputable def uS (sz:Option Nat)(l:List o8)(o:Nat):Option o8:=match sz with
 | none=>l[o]?
 | some k=>ob (takeN k (l.drop o)) fun r=>some (.agg r)
theorem tq {t:TypeId}{sz:Option Nat}(ht:partT P t=some sz){l:List o8}(hl:ltL n l)(o:Nat){v:o8}
  (hv:uS sz l o=some v):
  v.lt n∧∀w,(part t (I7 ι l).toArray o).run P w=.ok (I4 ι v) w:=by
 rcases sW ht with⟨rfl,ha,k,hk⟩ | ⟨k,rfl,ha,hk⟩
 ·simp only [uS] at hv
  refine⟨O4 hl (List.mem_of_getElem? hv),fun w=>?_⟩
  simp [part,jD ha,Y1,hv]
 ·simp only [uS] at hv
  obtain⟨r,h1,h2⟩:=J7 hv
  cases h2
  obtain⟨rfl,_⟩:=fC _ _ _ h1
  refine⟨aK.2 fun v hv=>O4 hl (List.mem_of_mem_drop (List.mem_of_mem_take hv)),fun w=>?_⟩
  simp [part,jD ha,run_sizeOf hk,I4,Y9,List.map_take,List.map_drop]
theorem wT (s:St P ι n slots done ls env a.tmps){x:Option Operand}{o:Option Opd}(h:cOpt P slots done x=some o):
  (x=none∧o=none)∨∃y z,x=some y∧o=some z∧a.eval y=I4 ι (trO z ls env):=by
 cases x with
 | none=>simp only [cOpt,Option.some.injEq] at h;exact .inl ⟨rfl,h.symm⟩
 | some y=>
  simp only [cOpt] at h
  cases hy:ak P slots done y with
  | none=>simp [hy] at h
  | some z=>
   simp only [hy,Option.some.injEq] at h
   exact .inr ⟨y,z,rfl,h.symm,(J2 s hy).1⟩
theorem jJ (s:St P ι n slots done ls env a.tmps){lo hi:Option Operand}{lo' hi':Option Opd}(hlo:cOpt P slots done lo=some lo')(hhi:cOpt P slots done hi=some hi')
  {β:Type} {k:Nat→Nat→Option β} {d:Nat} {r:β} (h:cB (nE lo') 0 ls env (fun l=>cB (nE hi') d ls env fun h=>k l h)=some r):
  ∃l h,k l h=some r∧(hi=none→h=d)∧(lo=none→l=0)∧
   (∀(isSlice:Bool) (len cap:Nat) (w:World),len=d→l≤h→h≤cap→(Instr.sliceBounds isSlice len cap (lo.map a.eval) (hi.map a.eval) none).run P w=.ok (l,h,cap) w):=by
 rcases wT s hlo with⟨rfl,rfl⟩ | ⟨y,z,rfl,rfl,hy⟩<;>rcases wT s hhi with⟨rfl,rfl⟩ | ⟨y',z',rfl,rfl,hy'⟩
 ·exact⟨0,d,h,fun _=>rfl,fun _=>rfl,fun is len cap w he _ _=>by subst he;simp [Instr.sliceBounds]⟩
 ·obtain⟨i,m,h1,h2⟩:=bJ h
  refine⟨0,m,h2,(by simp),(by simp),fun is len cap w he h1' h2'=>?_⟩
  have h1:trO z' ls env=.int i (m:Int):=h1
  simp only [Option.map_some,Option.map_none,hy',h1,I4,Instr.sliceBounds,Instr.sliceBound,asIntOf]
  cases is<;>simp [h2']
 ·obtain⟨i,m,h1,h2⟩:=bJ h
  refine⟨m,d,h2,(by simp),(by simp),fun is len cap w he h1' h2'=>?_⟩
  have h1:trO z ls env=.int i (m:Int):=h1
  subst he
  simp only [Option.map_some,Option.map_none,hy,h1,I4,Instr.sliceBounds,Instr.sliceBound,asIntOf]
  simp [h1']
 ·obtain⟨i,m,h1,h2⟩:=bJ h
  obtain⟨i',m',h3,h4⟩:=bJ h2
  refine⟨m,m',h4,(by simp),(by simp),fun is len cap w he h1' h2'=>?_⟩
  have h1:trO z ls env=.int i (m:Int):=h1
  have h3:trO z' ls env=.int i' (m':Int):=h3
  simp only [Option.map_some,hy,h1,hy',h3,I4,Instr.sliceBounds,Instr.sliceBound,asIntOf]
  cases is<;>simp [h1',h2']
theorem mG {t e:TypeId}{es:Nat}(hu:P.underlying t=some (.slice e))(hs:gG P e=some es)(ad:Addr)(len cap:Nat)(k:IntKind)(i:Nat)(hi:i<len)(w:World):
  (Instr.indexAt t (.slice (some ad) len cap) (.int k (i:Int))).run P w=.ok (.pointer (some (ad.add (i*es)))) w:=by
 simp [Instr.indexAt,asIntOf,run_underlying hu,run_sizeOf hs,hi]
theorem uT {t e:TypeId}{es len:Nat}(hu:P.underlying t=some (.array len e))(hs:gG P e=some es)(ad:Addr)(k:IntKind)(i:Nat)(hi:i<len)(w:World):
  (Instr.indexAt t (.pointer (some ad)) (.int k (i:Int))).run P w=.ok (.pointer (some (ad.add (i*es)))) w:=by
 simp [Instr.indexAt,asIntOf,run_underlying hu,run_sizeOf hs,hi,Instr.sureAddr]
theorem BG (mx:Bool):∀(ys:List o8) (x v:o8),ltL n ys→x.lt n→Em mx ys x=some v→v.lt n∧
  ∀w,((I7 ι ys).foldlM (if mx then Builtin.max2 else Builtin.min2) (I4 ι x)).run P w=.ok (I4 ι v) w:=by
 intro ys
 induction ys with
 | nil=>intro x v _ hx h;cases h;exact⟨hx,fun w=>by simp [I7]⟩
 | cons y ys ih=>
  intro x v hys hx h
  have h:ob (mm2 mx x y) (fun z=>Em mx ys z)=some v:=h
  obtain⟨z,h1,h2⟩:=J7 h
  simp only [mm2] at h1
  obtain⟨k,p,e1,h1⟩:=gX h1
  obtain⟨k',q,e2,h1⟩:=gX h1
  cases h1
  obtain⟨g1,g2⟩:=ih _ v hys.2 (by simp [o8.lt]) h2
  refine⟨g1,fun w=>?_⟩
  subst e1;subst e2
  simp only [I7,List.foldlM_cons,Sem.run_bind,I4]
  have:((if mx=true then Builtin.max2 else Builtin.min2) (.int k p) (.int k' q)).run P w=.ok (.int k (bi mx (bi (nG p q) q p) (bi (nG q p) q p))) w:=by
   cases mx
   ·simp only [Bool.false_eq_true,if_false,Builtin.min2,Sem.run_pure,Y8,fq]
    by_cases hlt:q<p
    ·simp [hlt]
    ·simp [hlt]
   ·simp only [if_true,Builtin.max2,Sem.run_pure,ay,fq]
    by_cases hlt:p<q
    ·simp [hlt]
    ·simp [hlt]
  rw [this]
  exact g2 w
end
end Go.AM
namespace Go.AM
open Go
section
variable {P:Program}{G:Mem}{ι:Inj}{n:Nm}{slots:List Nat}{done:List (Option Nat)}{ls:List o8}{env:T o8}{a:Act}
theorem Z7 {x y:POp}(h:(pure (AOp.p x):Option AOp)=some (.p y)):x=y:=by cases h;rfl
set_option maxHeartbeats 1000000 in
theorem kH (s:St P ι n slots done ls env a.tmps){op:Op}{po:POp}(h:cOp P slots done op=some (.p po)){v:o8}(hv:trP po ls env=some v):
  v.lt n∧Gives P a.eval op (I4 ι v):=by
 cases op with
 | move x=>
  obtain⟨x',hx,h⟩:=bind_eq h
  obtain rfl:=Z7 h
  cases hv
  obtain⟨e1,e2⟩:=J2 s hx
  exact⟨e2,fun o ho w=>by simp [execOp,ho,e1]⟩
 | assign x=>
  obtain⟨x',hx,h⟩:=bind_eq h
  obtain rfl:=Z7 h
  cases hv
  obtain⟨e1,e2⟩:=J2 s hx
  exact⟨e2,fun o ho w=>by simp [execOp,ho,e1]⟩
 | pick c x y=>
  obtain⟨c',hc,h⟩:=bind_eq h
  obtain⟨x',hx,h⟩:=bind_eq h
  obtain⟨y',hy,h⟩:=bind_eq h
  obtain rfl:=Z7 h
  obtain⟨b,h1,h2⟩:=ku hv
  have h1:trO c' ls env=.bool b:=h1
  obtain⟨e1,_⟩:=J2 s hc
  obtain⟨e2,e2'⟩:=J2 s hx
  obtain⟨e3,e3'⟩:=J2 s hy
  rw [h1] at e1
  cases b with
  | true=>cases h2;exact⟨e2',fun o ho w=>by simp [execOp,ho,e1,e2,I4,asBool]⟩
  | false=>cases h2;exact⟨e3',fun o ho w=>by simp [execOp,ho,e1,e3,I4,asBool]⟩
 | build t parts=>
  obtain⟨zero,ps,e,hb⟩:=zZ s (show qj P slots done t parts.toList=some (.p po) from h)
  cases e
  exact hb v hv
 | nilCheck x=>
  obtain⟨x',hx,h⟩:=bind_eq h
  obtain rfl:=Z7 h
  obtain⟨e1,e2⟩:=J2 s hx
  have hv:sM (trO x' ls env)=some v:=hv
  generalize trO x' ls env=u at *
  have:v=u∧∀o:Oper,o.op=.nilCheck x→∀w,(execOp a.eval o).run P w=.ok (.value (I4 ι u)) w:=by
   cases u<;>simp only [sM,Option.some.injEq,reduceCtorEq] at hv<;>try (refine⟨hv.symm,fun o ho w=>?_⟩;simp [execOp,ho,e1,I4];done)
   rename_i fn p q
   cases fn<;>simp only [Option.some.injEq,reduceCtorEq] at hv
   refine⟨hv.symm,fun o ho w=>?_⟩
   simp [execOp,ho,e1,I4,fO]
  obtain⟨rfl,h2⟩:=this
  exact⟨e2,h2⟩
 | binOp op t x y yt=>
  simp only [cOp] at h
  by_cases h1:op=.eql∨op=.neq
  ·have hh:∃k x' y',UN P (rU x||rU y) t=some k∧ak P slots done x=some x'∧ak P slots done y=some y'∧
     ((k=.prim .i∨k=.prim .s)∧po=.ib op x' y'∨(k≠.prim .i∧k≠.prim .s)∧po=.eq (decide (op=.neq)) k x' y'):=by
    rcases h1 with rfl | rfl <;>
    ·simp only at h
     obtain⟨k,hk,h⟩:=bind_eq h
     cases k with
     | prim p=>
      cases p <;>
      ·simp only at h
       obtain⟨x',hx,h⟩:=bind_eq h
       obtain⟨y',hy,h⟩:=bind_eq h
       have:=Z7 h
       exact⟨_,x',y',hk,hx,hy,by simp [this]⟩
     | _=>
      simp only at h
      obtain⟨x',hx,h⟩:=bind_eq h
      obtain⟨y',hy,h⟩:=bind_eq h
      have:=Z7 h
      exact⟨_,x',y',hk,hx,hy,by simp [this]⟩
   obtain⟨k,x',y',hk,hx,hy,hh⟩:=hh
   obtain⟨e1,_⟩:=J2 s hx
   obtain⟨e2,_⟩:=J2 s hy
   rcases hh with⟨_,rfl⟩ | ⟨⟨hk1,hk2⟩,rfl⟩
   ·have hs1:op≠.shl:=by rcases h1 with rfl | rfl<;>simp
    have hs2:op≠.shr:=by rcases h1 with rfl | rfl<;>simp
    have hv:DY (Ja op) (Jb op) (trO x' ls env) (trO y' ls env)=some v:=by
     rcases h1 with rfl | rfl<;>exact hv
    refine⟨(kE (P:=P) (ι:=ι) hs1 hs2 hv t default).2,jI (fun w=>?_) (fun w=>by rw [e1,e2];exact (kE (n:=n) hs1 hs2 hv t w).1)⟩
    rw [e1,e2]
    rcases EO hv with⟨k,p,hf⟩ | ⟨p,hf⟩<;>rw [hf]<;>exact kC (by simp [I4]) (by simp [I4])
   ·have hv:∃r,vZ k (trO x' ls env) (trO y' ls env)=some r∧v=.bool (if op=.neq then !r else r):=by
     rcases h1 with rfl | rfl <;>
     ·obtain⟨r,h1,h2⟩:=J7 hv
      cases h2
      exact⟨r,h1,rfl⟩
    obtain⟨r,hr,rfl⟩:=hv
    refine⟨by simp [o8.lt],jI (fun w=>?_) (fun w=>?_)⟩
    ·rw [e1,e2]
     cases k with
     | prim p=>
      cases p with
      | b=>obtain⟨p,q,h3,h4,_⟩:=dN hr;rw [h3,h4];exact kC (by simp [I4]) (by simp [I4])
      | i=>exact absurd rfl hk1
      | s=>exact absurd rfl hk2
     | flat ks=>
      obtain⟨l,h3,h4⟩:=dh hr
      obtain⟨m,h5,h6⟩:=dh h4
      rw [h3,h5]
      refine zY ?_
      rcases (nK hk).symm with hk | hk
      ·obtain⟨_,_,_,_,_,_,h7,_⟩:=qA hk
       exact h7
      simp only [eqT] at hk
      split at hk<;>first | (simp at hk;done) | skip
      ·split at hk
       ·split at hk
        ·assumption
        ·cases hk
       ·cases hk
     | iface=>
      have hc:rU x=true∨rU y=true:=by
       rcases (nK hk).symm with hk | hk
       ·obtain⟨_,_,_,_,_,_,_,h7⟩:=qA hk
        cases h7
       simp only [eqT] at hk
       split at hk<;>first | (simp at hk;done) | skip
       ·split at hk
        ·split at hk<;>simp at hk
        ·simp at hk
       ·split at hk
        ·rename_i hc;simpa using hc
        ·simp at hk
      exact kC (fun p q=>by cases hx:trO x' ls env<;>simp_all [vZ,qc,I4]) (hc.elim (fun h=>.inr (.inr (.inl h))) (fun h=>.inr (.inr (.inr h))))
     | _=>
      refine kC (fun p q=>?_) (.inl ?_)<;>cases hx:trO x' ls env<;>simp_all [vZ,Eh,dK,Ei,wB,I4]
    ·rw [e1,e2]
     have:=ES hk hk1 hk2 (ι:=ι) hr w
     rcases h1 with rfl | rfl
     ·simpa [I4] using this.1
     ·simpa [I4] using this.2
  ·have hne:op≠.eql∧op≠.neq:=⟨fun e=>h1 (.inl e),fun e=>h1 (.inr e)⟩
   have hh:∃x' y',ak P slots done x=some x'∧ak P slots done y=some y'∧po=.ib op x' y':=by
    cases op<;>first
     | exact absurd rfl hne.1
     | exact absurd rfl hne.2
     | (simp only at h
        obtain⟨x',hx,h⟩:=bind_eq h
        obtain⟨y',hy,h⟩:=bind_eq h
        exact⟨x',y',hx,hy,(Z7 h).symm⟩)
   obtain⟨x',y',hx,hy,rfl⟩:=hh
   obtain⟨e1,_⟩:=J2 s hx
   obtain⟨e2,_⟩:=J2 s hy
   by_cases hs1:op=.shl
   ·subst hs1
    refine⟨(wM (P:=P) (ι:=ι) hv t default).2,jI (fun w=>fQ (by simp) (by simp)) (fun w=>by rw [e1,e2];exact (wM (n:=n) hv t w).1)⟩
   ·by_cases hs2:op=.shr
    ·subst hs2
     refine⟨(wN (P:=P) (ι:=ι) hv t default).2,jI (fun w=>fQ (by simp) (by simp)) (fun w=>by rw [e1,e2];exact (wN (n:=n) hv t w).1)⟩
    ·have hv:DY (Ja op) (Jb op) (trO x' ls env) (trO y' ls env)=some v:=by
      cases op<;>first | exact absurd rfl hs1 | exact absurd rfl hs2 | exact hv
     exact⟨(kE (P:=P) (ι:=ι) hs1 hs2 hv t default).2,jI (fun w=>fQ hne.1 hne.2) (fun w=>by rw [e1,e2];exact (kE (n:=n) hs1 hs2 hv t w).1)⟩
 | unOp op t x=>
  have hh:∃x',ak P slots done x=some x'∧(op=.not∧po=.not x'∨op=.neg∧po=.neg x'):=by
   simp only [cOp] at h
   cases op<;>simp only at h<;>first
    | (cases h;done)
    | (obtain⟨x',hx,h⟩:=bind_eq h
       exact⟨x',hx,by simp [Z7 h]⟩)
  obtain⟨x',hx,hh⟩:=hh
  obtain⟨e1,_⟩:=J2 s hx
  rcases hh with⟨rfl,rfl⟩ | ⟨rfl,rfl⟩
  ·obtain⟨b,h1,h2⟩:=ku hv
   have h1:trO x' ls env=.bool b:=h1
   cases h2
   exact⟨by simp [o8.lt],fun o ho w=>by simp [execOp,ho,e1,h1,I4,Op.unary]⟩
  ·obtain⟨k,m,h1,h2⟩:=gX hv
   have h1:trO x' ls env=.int k m:=h1
   cases h2
   exact⟨by simp [o8.lt],fun o ho w=>by simp [execOp,ho,e1,h1,I4,Op.unary,Op.intArith,mE]⟩
 | convert src dst x=>
  simp only [cOp] at h
  obtain⟨us,hus,h⟩:=bind_eq h
  obtain⟨ud,hud,h⟩:=bind_eq h
  have hh:∃x',ak P slots done x=some x'∧∃j k,us=.int j∧ud=.int k∧po=.conv k x':=by
   split at h
   ·obtain⟨x',hx,h⟩:=bind_eq h
    exact⟨x',hx,_,_,rfl,rfl,(Z7 h).symm⟩
   ·obtain⟨ue,_,h⟩:=bind_eq h
    split at h
    ·obtain⟨x',hx,h⟩:=bind_eq h;cases h
    ·cases h
   ·obtain⟨ue,_,h⟩:=bind_eq h
    split at h
    ·obtain⟨x',hx,h⟩:=bind_eq h;cases h
    ·cases h
   ·cases h
  obtain⟨x',hx,j,k,rfl,rfl,rfl⟩:=hh
  obtain⟨e1,e2⟩:=J2 s hx
  obtain⟨k',m,h1,h2⟩:=gX hv
  have h1:trO x' ls env=.int k' m:=h1
  cases h2
  exact⟨by simp [o8.lt],fun o ho w=>by simp [execOp,ho,convert,run_underlying hus,run_underlying hud,e1,h1,I4,Conv.intToInt,mE]⟩
 | makeInterface t x=>
  simp only [cOp] at h
  obtain⟨u,hu,h⟩:=bind_eq h
  have hh:∃x',ak P slots done x=some x'∧po=.mkIface t x'∧∀ms,u≠.interface ms:=by
   split at h
   ·cases h
   ·rename_i hne
    obtain⟨x',hx,h⟩:=bind_eq h
    exact⟨x',hx,(Z7 h).symm,fun ms e=>hne ms e⟩
  obtain⟨x',hx,rfl,hne⟩:=hh
  obtain⟨e1,e2⟩:=J2 s hx
  cases hv
  refine⟨by simpa [o8.lt] using e2,fun o ho w=>?_⟩
  simp only [execOp,ho,Instr.makeInterface,Sem.run_bind,run_underlying hu,Result.andThen_ok,e1]
  cases u<;>first | exact absurd rfl (hne _) | simp [I4]
 | typeAssert x xt t ok=>
  simp only [cOp] at h
  obtain⟨u,hu,h⟩:=bind_eq h
  have hh:∃z x',zeroV P t=some z∧ak P slots done x=some x'∧po=.assert t z ok x'∧∀ms,u≠.interface ms:=by
   split at h
   ·cases h
   ·rename_i hne
    obtain⟨z,hz,h⟩:=bind_eq h
    obtain⟨x',hx,h⟩:=bind_eq h
    exact⟨z,x',hz,hx,(Z7 h).symm,fun ms e=>hne ms e⟩
  obtain⟨z,x',hz,hx,rfl,hne⟩:=hh
  obtain⟨e1,e2⟩:=J2 s hx
  have hv1:En t z ok (trO x' ls env)=some v:=hv
  clear hv
  generalize trO x' ls env=y at *
  cases y with
  | nilIface=>
   cases ok with
   | false=>cases hv1
   | true=>
    have hv1:some (o8.tuple [z,.bool false])=some v:=hv1
    cases hv1
    refine⟨⟨(jE (w:=default) hz ι).2 n,trivial,trivial⟩,fun o ho w=>?_⟩
    have hz1:=(jE (w:=w) hz ι).1
    simp only [execOp,ho,Instr.typeAssert,Sem.run_bind,run_underlying hu,Result.andThen_ok,e1,I4]
    cases u<;>first | exact absurd rfl (hne _) | simp [hz1,I7,I4]
  | iface t' y=>
   have hv1:bi (Nat.beq t' t) (some (bi ok (.tuple [y,.bool true]) y)) (bi ok (some (.tuple [z,.bool false])) none)=some v:=hv1
   cases hb:Nat.beq t' t with
   | true=>
    have he:=Nat.eq_of_beq_eq_true hb
    rw [hb] at hv1
    have hv1:some (bi ok (.tuple [y,.bool true]) y)=some v:=hv1
    cases ok with
    | false=>
     have hv1:some y=some v:=hv1
     cases hv1
     refine⟨e2,fun o ho w=>?_⟩
     simp only [execOp,ho,Instr.typeAssert,Sem.run_bind,run_underlying hu,Result.andThen_ok,e1,I4]
     cases u<;>first | exact absurd rfl (hne _) | simp [he]
    | true=>
     have hv1:some (o8.tuple [y,.bool true])=some v:=hv1
     cases hv1
     refine⟨⟨e2,trivial,trivial⟩,fun o ho w=>?_⟩
     simp only [execOp,ho,Instr.typeAssert,Sem.run_bind,run_underlying hu,Result.andThen_ok,e1,I4]
     cases u<;>first | exact absurd rfl (hne _) | simp [he,I7,I4]
   | false=>
    have he:t'≠t:=Nat.ne_of_beq_eq_false hb
    rw [hb] at hv1
    cases ok with
    | false=>cases hv1
    | true=>
     have hv1:some (o8.tuple [z,.bool false])=some v:=hv1
     cases hv1
     refine⟨⟨(jE (w:=default) hz ι).2 n,trivial,trivial⟩,fun o ho w=>?_⟩
     have hz1:=(jE (w:=w) hz ι).1
     simp only [execOp,ho,Instr.typeAssert,Sem.run_bind,run_underlying hu,Result.andThen_ok,e1,I4]
     cases u<;>first | exact absurd rfl (hne _) | simp [hz1,he,I7,I4]
  | _=>cases hv1
 | makeFunc fn f c=>
  simp only [cOp] at h
  have hh:∃g f' c',fn=.func g∧iD P slots done f.toList=some f'∧iD P slots done c.toList=some c'∧po=.mkFunc (.func g) f' c':=by
   split at h
   ·obtain⟨f',hf,h⟩:=bind_eq h
    obtain⟨c',hc,h⟩:=bind_eq h
    exact⟨_,f',c',rfl,hf,hc,(Z7 h).symm⟩
   ·cases h
  obtain⟨g,f',c',rfl,hf,hc,rfl⟩:=hh
  cases hv
  obtain⟨e1,e2⟩:=fE s hf
  obtain⟨e3,e4⟩:=fE s hc
  refine⟨⟨trivial,e2,e4⟩,fun o ho w=>?_⟩
  have q1:f.map a.eval=(I7 ι (evs (je f') ls env)).toArray:=by apply Array.toList_inj.1;rw [Array.toList_map];exact e1
  have q2:c.map a.eval=(I7 ι (evs (je c') ls env)).toArray:=by apply Array.toList_inj.1;rw [Array.toList_map];exact e3
  simp [execOp,ho,Instr.makeFunc,q1,q2,I4,fO]
 | slice t x lo hi mx=>
  simp only [cOp] at h
  cases mx with
  | some _=>simp at h
  | none=>
  simp only at h
  obtain⟨u,hu,h⟩:=bind_eq h
  split at h
  ·obtain⟨x',hx,h⟩:=bind_eq h
   obtain⟨lo',hlo,h⟩:=bind_eq h
   obtain⟨hi',hhi,h⟩:=bind_eq h
   obtain rfl:=Z7 h
   obtain⟨e1,e2⟩:=J2 s hx
   obtain⟨str,h1,h2⟩:=jG hv
   have h1:trO x' ls env=.str str:=h1
   obtain⟨l,h,h3,_,_,h4⟩:=jJ s hlo hhi h2
   obtain⟨g1,h3⟩:=K8 h3
   obtain⟨g2,h3⟩:=K8 h3
   obtain⟨r,h5,h6⟩:=J7 h3
   cases h6
   have g1:=Nat.le_of_ble_eq_true g1
   have g2:=Nat.le_of_ble_eq_true g2
   simp only [P8,eZ] at *
   obtain⟨rfl,_⟩:=fC _ _ _ h5
   refine⟨by simp [o8.lt],fun o ho w=>?_⟩
   simp only [execOp,ho,Instr.sliceAt,Sem.run_bind,run_underlying hu,Result.andThen_ok,Instr.slice,e1,h1,I4]
   simp only [Option.map_none,Option.isSome_none,Bool.false_eq_true,if_false,Sem.run_bind,kD,Sem.run_pure,Result.andThen_ok]
   rw [h4 false str.length str.length w rfl g1 g2]
   simp only [Result.andThen_ok,Sem.run_pure]
   congr 3
   apply ByteArray.ext
   simp [ByteArray.data_extract,List.extract_eq_take_drop]
  ·obtain⟨es,_,h⟩:=bind_eq h
   obtain⟨x',hx,h⟩:=bind_eq h
   obtain⟨lo',hlo,h⟩:=bind_eq h
   obtain⟨hi',hhi,h⟩:=bind_eq h
   cases h
  ·rename_i n' e'
   obtain⟨es,hes,h⟩:=bind_eq h
   obtain⟨x',hx,h⟩:=bind_eq h
   obtain⟨lo',hlo,h⟩:=bind_eq h
   obtain⟨hi',hhi,h⟩:=bind_eq h
   obtain rfl:=Z7 h
   obtain⟨e1,e2⟩:=J2 s hx
   obtain⟨i,o,h1,h2⟩:=eO hv
   have h1:trO x' ls env=.ptr i o:=h1
   rw [h1] at e1 e2
   obtain⟨l,h,h3,_,_,h4⟩:=jJ s hlo hhi h2
   obtain⟨g1,h3⟩:=K8 h3
   obtain⟨g2,h3⟩:=K8 h3
   cases h3
   have g1:=Nat.le_of_ble_eq_true g1
   have g2:=Nat.le_of_ble_eq_true g2
   refine⟨e2,fun op ho w=>?_⟩
   simp only [execOp,ho,Instr.sliceAt,Sem.run_bind,run_underlying hu,Result.andThen_ok,e1,I4,Instr.sureAddr,Sem.run_pure,Option.map_none]
   rw [h4 false _ _ w rfl g1 g2]
   simp only [Result.andThen_ok,Sem.run_bind,run_sizeOf hes,Sem.run_pure]
   rw [oG,Inj.jF]
   by_cases hl:n'=l
   ·rw [if_pos hl,if_pos hl.symm];rfl
   ·rw [if_neg hl,if_neg (fun e=>hl e.symm)];rfl
  ·cases h
 | fieldAddr t x f=>
  simp only [cOp] at h
  obtain⟨u,hu,h⟩:=bind_eq h
  have hh:∃fs fd x' sz,u=.struct fs∧fs[f]?=some fd∧gG P fd.type=some sz∧sz≠0∧ak P slots done x=some x'∧po=.fAddr fd.offset x':=by
   split at h
   ·obtain⟨fd,hf,h⟩:=bind_eq h
    obtain⟨sz,hsz,h⟩:=bind_eq h
    split at h
    ·cases h
    ·obtain⟨x',hx,h⟩:=bind_eq h
     exact⟨_,fd,x',sz,rfl,hf,hsz,by assumption,hx,(Z7 h).symm⟩
   ·cases h
  obtain⟨fs,fd,x',sz,rfl,hf,hsz,hne,hx,rfl⟩:=hh
  obtain⟨e1,e2⟩:=J2 s hx
  obtain⟨i,o,h1,h2⟩:=eO hv
  have h1:trO x' ls env=.ptr i o:=h1
  cases h2
  rw [h1] at e1 e2
  refine⟨e2,fun op ho w=>?_⟩
  simp only [execOp,ho,Instr.fieldAt,Sem.run_bind,run_underlying hu,Result.andThen_ok,hf,e1,I4,Instr.sureAddr,Sem.run_pure,fieldPlace,run_sizeOf hsz,if_neg hne,Inj.jF]
  rfl
 | field t x f=>
  simp only [cOp] at h
  obtain⟨u,hu,h⟩:=bind_eq h
  have hh:∃fs fd x' sz,u=.struct fs∧fs[f]?=some fd∧partT P fd.type=some sz∧ak P slots done x=some x'∧po=.fld fd.offset sz x':=by
   split at h
   ·obtain⟨fd,hf,h⟩:=bind_eq h
    obtain⟨sz,hsz,h⟩:=bind_eq h
    obtain⟨x',hx,h⟩:=bind_eq h
    exact⟨_,fd,x',sz,rfl,hf,hsz,hx,(Z7 h).symm⟩
   ·cases h
  obtain⟨fs,fd,x',sz,rfl,hf,hsz,hx,rfl⟩:=hh
  obtain⟨e1,e2⟩:=J2 s hx
  have hv':∃l,trO x' ls env=.agg l∧uS sz l fd.offset=some v:=by
   cases sz with
   | none=>obtain⟨l,h1,h2⟩:=dh hv;exact⟨l,h1,by simpa [uS] using h2⟩
   | some k=>obtain⟨l,h1,h2⟩:=dh hv;exact⟨l,h1,by simpa [uS] using h2⟩
  obtain⟨l,h1,h2⟩:=hv'
  rw [h1] at e1 e2
  obtain⟨g1,g2⟩:=tq (ι:=ι) hsz (show ltL n l from e2) fd.offset h2
  refine⟨g1,fun op ho w=>?_⟩
  simp [execOp,ho,Instr.field,run_underlying hu,hf,e1,I4,asAgg,g2]
 | indexAddr t x i=>
  simp only [cOp] at h
  obtain⟨u,hu,h⟩:=bind_eq h
  split at h
  ·obtain⟨es,hes,h⟩:=bind_eq h
   obtain⟨x',hx,h⟩:=bind_eq h
   obtain⟨i',hi,h⟩:=bind_eq h
   obtain rfl:=Z7 h
   obtain⟨e1,e2⟩:=J2 s hx
   obtain⟨e3,_⟩:=J2 s hi
   rcases oD hv with⟨_,h2⟩ | ⟨id,off,len,cap,h1,h2⟩ | ⟨id,off,len,es',h1,h2⟩
   ·cases h2
   ·obtain⟨k,m,h3,hlt,h4⟩:=idx_eq h2
    cases h4
    have h1:trO x' ls env=.slice id off len cap:=h1
    have h3:trO i' ls env=.int k (m:Int):=h3
    rw [h1] at e1 e2
    refine⟨e2,fun op ho w=>?_⟩
    simp only [execOp,ho,Sem.run_bind,e1,e3,h3,I4,mG hu hes _ _ _ _ _ hlt,Inj.jF,Result.andThen_ok,Sem.run_pure]
    rfl
   ·obtain⟨k,m,h3,hlt,h4⟩:=idx_eq h2
    cases h4
    have h1:trO x' ls env=.sliceU id off len es':=h1
    have h3:trO i' ls env=.int k (m:Int):=h3
    rw [h1] at e1 e2
    refine⟨e2.1,fun op ho w=>?_⟩
    simp only [execOp,ho,Sem.run_bind,e1,e3,h3,I4,mG hu hes _ _ _ _ _ hlt,Inj.jF,Result.andThen_ok,Sem.run_pure]
    rfl
  ·obtain⟨es,hes,h⟩:=bind_eq h
   obtain⟨x',hx,h⟩:=bind_eq h
   obtain⟨i',hi,h⟩:=bind_eq h
   obtain rfl:=Z7 h
   obtain⟨e1,e2⟩:=J2 s hx
   obtain⟨e3,_⟩:=J2 s hi
   obtain⟨id,off,h1,h2⟩:=eO hv
   obtain⟨k,m,h3,hlt,h4⟩:=idx_eq h2
   cases h4
   have h1:trO x' ls env=.ptr id off:=h1
   have h3:trO i' ls env=.int k (m:Int):=h3
   rw [h1] at e1 e2
   refine⟨e2,fun op ho w=>?_⟩
   simp only [execOp,ho,Sem.run_bind,e1,e3,h3,I4,uT hu hes _ _ _ hlt,Inj.jF,Result.andThen_ok,Sem.run_pure]
   rfl
  ·cases h
 | index t x i=>
  simp only [cOp] at h
  obtain⟨u,hu,h⟩:=bind_eq h
  split at h
  ·obtain⟨x',hx,h⟩:=bind_eq h
   obtain⟨i',hi,h⟩:=bind_eq h
   obtain rfl:=Z7 h
   obtain⟨e1,e2⟩:=J2 s hx
   obtain⟨e3,_⟩:=J2 s hi
   obtain⟨str,h1,h2⟩:=jG hv
   obtain⟨k,m,h3,h4⟩:=bJ h2
   obtain⟨b,h5,h6⟩:=J7 h4
   cases h6
   have h1:trO x' ls env=.str str:=h1
   have h3:trO i' ls env=.int k (m:Int):=h3
   rw [fM] at h5
   refine⟨by simp [o8.lt],fun op ho w=>?_⟩
   obtain⟨hlt,hb⟩:=List.getElem?_eq_some_iff.1 h5
   have hidx:(⟨str.toArray⟩:ByteArray)[m]?=some b:=by
    rw [ByteArray.getElem?_lt' _ _ (by rw [kD];exact hlt)]
    congr 1
   simp only [execOp,ho,Instr.index,Sem.run_bind,run_underlying hu,e1,h1,e3,h3,I4,asIntOf,Sem.run_pure,Result.andThen_ok]
   rw [if_pos (Int.natCast_nonneg m),Int.toNat_natCast,hidx]
   rfl
  ·rename_i len elem
   obtain⟨es,hes,h⟩:=bind_eq h
   obtain⟨sz,hsz,h⟩:=bind_eq h
   obtain⟨x',hx,h⟩:=bind_eq h
   obtain⟨i',hi,h⟩:=bind_eq h
   obtain rfl:=Z7 h
   obtain⟨e1,e2⟩:=J2 s hx
   obtain⟨e3,_⟩:=J2 s hi
   have hv':∃l k,∃m:Nat,trO x' ls env=.agg l∧trO i' ls env=.int k (m:Int)∧m<len∧uS sz l (m*es)=some v:=by
    cases sz with
    | none=>
     obtain⟨l,h1,h2⟩:=dh hv
     obtain⟨k,m,h3,hlt,h4⟩:=idx_eq h2
     exact⟨l,k,m,h1,h3,hlt,by simpa [uS] using h4⟩
    | some k=>
     obtain⟨l,h1,h2⟩:=dh hv
     obtain⟨k',m,h3,hlt,h4⟩:=idx_eq h2
     exact⟨l,k',m,h1,h3,hlt,by simpa [uS] using h4⟩
   obtain⟨l,k,m,h1,h3,hlt,h2⟩:=hv'
   rw [h1] at e1 e2
   obtain⟨g1,g2⟩:=tq (ι:=ι) hsz (show ltL n l from e2) (m*es) h2
   refine⟨g1,fun op ho w=>?_⟩
   simp [execOp,ho,Instr.index,run_underlying hu,run_sizeOf hes,e1,e3,h3,I4,asIntOf,hlt,g2]
  ·cases h
 | extract x i=>
  simp only [cOp] at h
  obtain⟨x',hx,h⟩:=bind_eq h
  obtain rfl:=Z7 h
  obtain⟨e1,e2⟩:=J2 s hx
  obtain⟨l,h1,h2⟩:=MU hv
  have h1:trO x' ls env=.tuple l:=h1
  rw [fM] at h2
  rw [h1] at e1 e2
  refine⟨O4 (show ltL n l from e2) (List.mem_of_getElem? h2),fun op ho w=>?_⟩
  simp [execOp,ho,Instr.extract,e1,I4,Y1,h2]
 | call c=>
  obtain⟨callee,args,ts⟩:=c
  simp only [cOp] at h
  cases callee with
  | invoke _ _=>cases h
  | value f=>
   cases f with
   | func f=>
    obtain⟨fn,_,h⟩:=bind_eq h
    split at h
    ·obtain⟨os,_,h⟩:=bind_eq h;cases h
    ·cases h
   | _=>
    obtain⟨x',_,h⟩:=bind_eq h
    obtain⟨os,_,h⟩:=bind_eq h;cases h
  | builtin b=>
   obtain⟨args⟩:=args
   obtain⟨ts⟩:=ts
   simp only [mg] at h
   split at h
   ·
    rename_i t x
    obtain⟨u,hu,h⟩:=bind_eq h
    have hh:∃x',(ak P slots done x=some x'∧u=.string∧po=.lenS x')∨(ak P slots done x=some x'∧(∃e,u=.slice e)∧po=.len x')∨∃k e,u=.array k e∧po=.mov (.con (.int .i64 k)):=by
     split at h
     ·obtain⟨x',hx,h⟩:=bind_eq h;exact⟨x',.inl ⟨hx,rfl,(Z7 h).symm⟩⟩
     ·obtain⟨x',hx,h⟩:=bind_eq h;exact⟨x',.inr (.inl ⟨hx,⟨_,rfl⟩,(Z7 h).symm⟩)⟩
     ·exact⟨default,.inr (.inr ⟨_,_,rfl,(Z7 h).symm⟩)⟩
     ·obtain⟨x',hx,h⟩:=bind_eq h;cases h
     ·cases h
    obtain⟨x',⟨hx,rfl,rfl⟩ | ⟨hx,⟨e,rfl⟩,rfl⟩ | ⟨k,e,rfl,rfl⟩⟩:=hh
    ·obtain⟨e1,_⟩:=J2 s hx
     obtain⟨str,h1,h2⟩:=jG hv
     have h1:trO x' ls env=.str str:=h1
     cases h2
     exact⟨by simp [o8.lt],fun o ho w=>by simp [execOp,ho,resolve,invoke,builtin,Builtin.len_,run_underlying hu,e1,h1,I4,goInt,kD]⟩
    ·obtain⟨e1,_⟩:=J2 s hx
     rcases oD hv with⟨h1,h2⟩ | ⟨id,off,len,cap,h1,h2⟩ | ⟨id,off,len,cap,h1,h2⟩
     ·have h1:trO x' ls env=.nilSlice:=h1
      cases h2
      exact⟨by simp [o8.lt],fun o ho w=>by simp [execOp,ho,resolve,invoke,builtin,Builtin.len_,run_underlying hu,e1,h1,I4,goInt]⟩
     ·have h1:trO x' ls env=.slice id off len cap:=h1
      cases h2
      exact⟨by simp [o8.lt],fun o ho w=>by simp [execOp,ho,resolve,invoke,builtin,Builtin.len_,run_underlying hu,e1,h1,I4,goInt]⟩
     ·have h1:trO x' ls env=.sliceU id off len cap:=h1
      cases h2
      exact⟨by simp [o8.lt],fun o ho w=>by simp [execOp,ho,resolve,invoke,builtin,Builtin.len_,run_underlying hu,e1,h1,I4,goInt]⟩
    ·cases hv
     refine⟨by simp [trO,O5,o8.lt],fun o ho w=>?_⟩
     simp [execOp,ho,resolve,invoke,builtin,Builtin.len_,run_underlying hu,trO,O5,I4,goInt]
   ·
    rename_i t x
    obtain⟨u,hu,h⟩:=bind_eq h
    split at h
    ·obtain⟨x',hx,h⟩:=bind_eq h
     obtain rfl:=Z7 h
     obtain⟨e1,_⟩:=J2 s hx
     rcases oD hv with⟨h1,h2⟩ | ⟨id,off,len,cap,h1,h2⟩ | ⟨_,_,_,_,_,h2⟩
     ·have h1:trO x' ls env=.nilSlice:=h1
      cases h2
      exact⟨by simp [o8.lt],fun o ho w=>by simp [execOp,ho,resolve,invoke,builtin,Builtin.cap_,run_underlying hu,e1,h1,I4,goInt]⟩
     ·have h1:trO x' ls env=.slice id off len cap:=h1
      cases h2
      exact⟨by simp [o8.lt],fun o ho w=>by simp [execOp,ho,resolve,invoke,builtin,Builtin.cap_,run_underlying hu,e1,h1,I4,goInt]⟩
     ·cases h2
    ·cases h
   ·obtain⟨u,hu,h⟩:=bind_eq h
    split at h
    ·obtain⟨_,_,h⟩:=bind_eq h
     obtain⟨_,_,h⟩:=bind_eq h
     obtain⟨_,_,h⟩:=bind_eq h
     obtain⟨_,_,h⟩:=bind_eq h
     obtain⟨_,_,h⟩:=bind_eq h
     obtain⟨_,_,h⟩:=bind_eq h;cases h
    ·cases h
   ·obtain⟨u,hu,h⟩:=bind_eq h
    split at h
    ·obtain⟨_,_,h⟩:=bind_eq h
     obtain⟨_,_,h⟩:=bind_eq h
     obtain⟨_,_,h⟩:=bind_eq h;cases h
    ·cases h
   ·obtain⟨u,hu,h⟩:=bind_eq h
    split at h
    ·obtain⟨_,_,h⟩:=bind_eq h
     obtain⟨_,_,h⟩:=bind_eq h;cases h
    ·cases h
   ·
    rename_i x xs
    obtain⟨x',hx,h⟩:=bind_eq h
    obtain⟨xs',hxs,h⟩:=bind_eq h
    obtain rfl:=Z7 h
    obtain⟨e1,e2⟩:=J2 s hx
    obtain⟨e3,e4⟩:=fE s hxs
    obtain⟨g1,g2⟩:=BG (P:=P) (ι:=ι) true _ _ v e4 e2 hv
    refine⟨g1,fun o ho w=>?_⟩
    have:=g2 w
    simp only [if_true] at this
    simp [execOp,ho,resolve,invoke,builtin,Builtin.max_,e1,e3,this]
   ·rename_i x xs
    obtain⟨x',hx,h⟩:=bind_eq h
    obtain⟨xs',hxs,h⟩:=bind_eq h
    obtain rfl:=Z7 h
    obtain⟨e1,e2⟩:=J2 s hx
    obtain⟨e3,e4⟩:=fE s hxs
    obtain⟨g1,g2⟩:=BG (P:=P) (ι:=ι) false _ _ v e4 e2 hv
    refine⟨g1,fun o ho w=>?_⟩
    have:=g2 w
    simp only [Bool.false_eq_true,if_false] at this
    simp [execOp,ho,resolve,invoke,builtin,Builtin.min_,e1,e3,this]
   ·cases h
   ·cases h
 | alloc t=>simp only [cOp] at h;obtain⟨_,_,h⟩:=bind_eq h;cases h
 | box t x=>simp only [cOp] at h;obtain⟨_,_,h⟩:=bind_eq h;cases h
 | buildSlice t len parts=>
  simp only [cOp] at h
  obtain⟨_,_,h⟩:=bind_eq h
  split at h
  ·obtain⟨_,_,h⟩:=bind_eq h
   obtain⟨_,_,h⟩:=bind_eq h
   split at h
   ·obtain⟨_,_,h⟩:=bind_eq h;cases h
   ·cases h
  ·cases h
 | insert t m k x=>
  simp only [cOp] at h
  obtain⟨_,_,h⟩:=bind_eq h
  split at h
  ·obtain⟨_,_,h⟩:=bind_eq h
   obtain⟨_,_,h⟩:=bind_eq h
   obtain⟨_,_,h⟩:=bind_eq h
   obtain⟨_,_,h⟩:=bind_eq h;cases h
  ·cases h
 | mapUpdate t m k x=>
  simp only [cOp] at h
  obtain⟨_,_,h⟩:=bind_eq h
  split at h
  ·obtain⟨_,_,h⟩:=bind_eq h
   obtain⟨_,_,h⟩:=bind_eq h
   obtain⟨_,_,h⟩:=bind_eq h
   obtain⟨_,_,h⟩:=bind_eq h;cases h
  ·cases h
 | load t x=>simp only [cOp] at h;obtain⟨_,_,h⟩:=bind_eq h;obtain⟨_,_,h⟩:=bind_eq h;cases h
 | store t x y=>simp only [cOp] at h;obtain⟨_,_,h⟩:=bind_eq h;obtain⟨_,_,h⟩:=bind_eq h;obtain⟨_,_,h⟩:=bind_eq h;cases h
 | makeMap t r=>
  simp only [cOp] at h
  repeat' (first | (cases h;done) | split at h)
 | makeSlice t l c=>
  simp only [cOp] at h
  obtain⟨_,_,h⟩:=bind_eq h
  split at h
  ·obtain⟨_,_,h⟩:=bind_eq h
   obtain⟨_,_,h⟩:=bind_eq h
   obtain⟨_,_,h⟩:=bind_eq h
   obtain⟨_,_,h⟩:=bind_eq h
   obtain⟨_,_,h⟩:=bind_eq h;cases h
  ·cases h
 | lookup t x k ok=>
  simp only [cOp] at h
  obtain⟨_,_,h⟩:=bind_eq h
  split at h
  ·obtain⟨_,_,h⟩:=bind_eq h
   obtain⟨_,_,h⟩:=bind_eq h
   obtain⟨_,_,h⟩:=bind_eq h
   obtain⟨_,_,h⟩:=bind_eq h;cases h
  ·cases h
 | range t x=>
  simp only [cOp] at h
  obtain⟨_,_,h⟩:=bind_eq h
  split at h
  ·obtain⟨_,_,h⟩:=bind_eq h;cases h
  ·cases h
 | next it is=>
  cases is
  ·simp only [cOp] at h;obtain⟨_,_,h⟩:=bind_eq h;cases h
  ·simp only [cOp] at h;cases h
 | entry it=>simp only [cOp] at h;obtain⟨_,_,h⟩:=bind_eq h;cases h
 | panic x=>simp only [cOp] at h;obtain⟨_,_,h⟩:=bind_eq h;cases h
 | defer c=>
  simp only [cOp] at h
  split at h
  ·obtain⟨_,_,h⟩:=bind_eq h
   obtain⟨_,_,h⟩:=bind_eq h;cases h
  ·cases h
 | _=>simp only [cOp] at h;cases h
end
end Go.AM
