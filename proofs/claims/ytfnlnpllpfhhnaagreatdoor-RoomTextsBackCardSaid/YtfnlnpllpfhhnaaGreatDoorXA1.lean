/- A part of an evaluator for the model, proved sound: what it answers holds of the model; it speaks of every program, no condition. -/
import GoSem.Core.Code
import GoSem.Core.Program
import GoSem.Core.View
import GoSem.Core.World
import GoSem.Core.Region
import GoSem.Core.Layout
import GoSem.Op.Equal
import Derived.CallsIn
import Derived.Laws.Sem
import GoSem.Dispatch
import Derived.Laws.Strings
set_option linter.unusedSimpArgs false
set_option linter.unusedVariables false
namespace Go.AM
open Go
inductive T (α:Type) where
 | e:T α
 | nd:T α→α→T α→T α
inductive j6 where
 | undef
 | bool (b:Bool)
 | int (k:IntKind) (n:Int)
 | str (s:List UInt8)
 | nilPtr
 | ptr (id off:Nat)
 | nilSlice
 | slice (id off len cap:Nat)
 | sliceU (id off len es:Nat)
 | nilMap
 | map (id:Nat)
 | nilFunc
 | func (fn:Fn) (first captured:List j6)
 | nilIface
 | iface (t:TypeId) (v:j6)
 | agg (l:List j6)
 | tuple (l:List j6)
 | pan (v:j6)
 deriving Inhabited
def j6.cells:j6→List j6
 | .agg l=>l
 | v=>[v]
inductive Opd where
 | loc (k:Nat)
 | slot (j:Nat)
 | con (v:j6)
 deriving Inhabited
inductive PK where
 | i | b | s
 deriving Inhabited,DecidableEq
inductive EqK where
 | prim (k:PK) | flat (ks:List PK) | ptr | slice | map | func | iface
 deriving Inhabited,DecidableEq
inductive POp where
 | mov (x:Opd)
 | pick (c a b:Opd)
 | build (zero:List j6) (parts:List (Nat×Nat×Opd))
 | nilCheck (x:Opd)
 | ib (op:BinOp) (x y:Opd)
 | eq (neg:Bool) (k:EqK) (x y:Opd)
 | not (x:Opd)
 | neg (x:Opd)
 | conv (k:IntKind) (x:Opd)
 | mkIface (t:TypeId) (x:Opd)
 | mkFunc (fn:Fn) (first captured:List Opd)
 | slStr (x:Opd) (lo hi:Option Opd)
 | slArr (es n:Nat) (x:Opd) (lo hi:Option Opd)
 | fAddr (off:Nat) (x:Opd)
 | fld (off:Nat) (size:Option Nat) (x:Opd)
 | iAddr (es:Nat) (x i:Opd)
 | iAddrArr (es n:Nat) (x i:Opd)
 | iArr (es n:Nat) (size:Option Nat) (x i:Opd)
 | iStr (x i:Opd)
 | ext (x:Opd) (i:Nat)
 | len (x:Opd)
 | lenS (x:Opd)
 | cap (x:Opd)
 | mm (max:Bool) (x:Opd) (xs:List Opd)
 | assert (t:TypeId) (zero:j6) (ok:Bool) (x:Opd)
 deriving Inhabited
inductive ROp where
 | load (size:Option Nat) (a:Opd)
 | look (kk:EqK) (zero:j6) (ok:Bool) (m k:Opd)
 | lenM (x:Opd)
 | bytesStr (x:Opd)
 | entry (it:Opd)
 deriving Inhabited
inductive LOp where
 | alloc (zero:List j6)
 | box (x:Opd)
 | buildSlice (es len:Nat) (zero:List j6) (parts:List (Nat×Nat×Opd))
 | mkMap
 | mkSlice (es bytes:Nat) (zero:List j6) (len cap:Opd)
 | strBytes (x:Opd)
 | sl (es:Nat) (x:Opd) (lo hi:Option Opd)
 deriving Inhabited
inductive EOp where
 | store (size:Nat) (a x:Opd)
 | mapSet (kk:EqK) (m k x:Opd)
 | range (x:Opd)
 | next (it:Opd)
 | app (es:Nat) (zeros:Bool) (zero:List j6) (bytes:Nat) (s x:Opd)
 | copy (es:Nat) (d s:Opd)
 | clear (zero:List j6) (x:Opd)
 | call (f:FuncId) (args:List Opd)
 | callv (f:Opd) (args:List Opd)
 | defer (f:Opd) (args:List Opd)
 | panic (x:Opd)
 | recover
 | bad
 deriving Inhabited
inductive AOp where
 | p (o:POp)
 | r (o:ROp)
 | a (o:LOp)
 | e (o:EOp)
 deriving Inhabited
structure Inst where
 op:AOp
 dst:Option Nat
 guard:Option (Opd×Bool)
 deriving Inhabited
inductive aG where
 | skip
 | reg (ops:List Inst)
 | dreg (ids:Nat) (ops:List (Nat×Inst))
 | seq (a b:aG)
 | cond (c:Opd) (thn els:aG)
 | block (id:Nat) (body:aG)
 | loop (body:aG)
 | exit (id:Nat)
 | ret
 | rangeFunc (f:Opd) (params:List (Option Nat)) (assign body:aG)
 deriving Inhabited
inductive aX where
 | normal
 | exit (id:Nat)
 | ret
 deriving Inhabited,DecidableEq
inductive Mk where
 | c (id:Nat)
 | d (f:j6) (args:List j6)
 deriving Inhabited
inductive sZ where
 | tmp (j:Nat)
 | cell (j:Nat) (size:Option Nat)
 deriving Inhabited
structure AFn where
 nargs:Nat
 args:List (Option Nat)
 nslots:Nat
 results:List sZ
 body:aG
 deriving Inhabited
def kQ:POp→List Opd
 | .mov x=>[x]
 | .pick a b c=>[a,b,c]
 | .build _ ps=>ps.map (·.2.2)
 | .nilCheck x=>[x]
 | .ib _ x y=>[x,y]
 | .eq _ _ x y=>[x,y]
 | .not x=>[x]
 | .neg x=>[x]
 | .conv _ x=>[x]
 | .mkIface _ x=>[x]
 | .mkFunc _ a b=>a++b
 | .slStr x a b=>x::(a.toList++b.toList)
 | .slArr _ _ x a b=>x::(a.toList++b.toList)
 | .fAddr _ x=>[x]
 | .fld _ _ x=>[x]
 | .iAddr _ x i=>[x,i]
 | .iAddrArr _ _ x i=>[x,i]
 | .iArr _ _ _ x i=>[x,i]
 | .iStr x i=>[x,i]
 | .ext x _=>[x]
 | .len x=>[x]
 | .lenS x=>[x]
 | .cap x=>[x]
 | .mm _ x xs=>x::xs
 | .assert _ _ _ x=>[x]
def FL:ROp→List Opd
 | .load _ a=>[a]
 | .look _ _ _ m x=>[m,x]
 | .lenM x=>[x]
 | .bytesStr x=>[x]
 | .entry x=>[x]
def opsL:LOp→List Opd
 | .alloc _=>[]
 | .box x=>[x]
 | .buildSlice _ _ _ ps=>ps.map (·.2.2)
 | .mkMap=>[]
 | .mkSlice _ _ _ l c=>[l,c]
 | .strBytes x=>[x]
 | .sl _ x a b=>x::(a.toList++b.toList)
def opsE:EOp→List Opd
 | .store _ a x=>[a,x]
 | .mapSet _ a b c=>[a,b,c]
 | .range x=>[x]
 | .next x=>[x]
 | .app _ _ _ _ s x=>[s,x]
 | .copy _ d s=>[d,s]
 | .clear _ x=>[x]
 | .call _ a=>a
 | .callv g a=>g::a
 | .defer g a=>g::a
 | .panic x=>[x]
 | .recover=>[]
 | .bad=>[]
def FM:AOp→List Opd
 | .p o=>kQ o
 | .r o=>FL o
 | .a o=>opsL o
 | .e o=>opsE o
end Go.AM
namespace Go.AM
open Go
variable {α β γ:Type}
noncomputable def ob (o:Option α)(k:α→Option β):Option β:=Option.rec none (fun a=>k a) o
noncomputable def bi (b:Bool)(x y:α):α:=Bool.rec y x b
noncomputable def T.get (t:T α):Nat→Option α:=
 T.rec (fun _=>none) (fun _ x _ ihl ihr i=>Nat.rec (some x) (fun j _=>Nat.rec (ihl (Nat.div j 2)) (fun _ _=>ihr (Nat.div j 2)) (Nat.mod j 2)) i) t
noncomputable def T.put (t:T α):Nat→α→T α:=
 T.rec (fun _ x=>.nd .e x .e) (fun l y r ihl ihr i x=>Nat.rec (.nd l x r) (fun j _=>Nat.rec (.nd (ihl (Nat.div j 2) x) y r) (fun _ _=>.nd l y (ihr (Nat.div j 2) x)) (Nat.mod j 2)) i) t
noncomputable def T.jo (l:List α):T α→Nat→T α:=
 List.rec (fun t _=>t) (fun x _ ih t i=>ih (t.put i x) (Nat.succ i)) l
noncomputable def T.ofList (l:List α):T α:=T.jo l .e 0
noncomputable def T.slice (t:T α)(n:Nat):Nat→Option (List α):=
 Nat.rec (fun _=>some []) (fun _ ih i=>ob (t.get i) fun x=>ob (ih (Nat.succ i)) fun xs=>some (x::xs)) n
noncomputable def T.rep (x:α)(n:Nat):T α→Nat→T α:=
 Nat.rec (fun t _=>t) (fun _ ih t i=>ih (t.put i x) (Nat.succ i)) n
noncomputable def takeN (n:Nat):List α→Option (List α):=
 Nat.rec (fun _=>some []) (fun _ ih l=>List.rec none (fun x xs _=>ob (ih xs) fun r=>some (x::r)) l) n
noncomputable def kR (n:Nat):List α→List α:=
 Nat.rec (fun l=>l) (fun _ ih l=>List.rec [] (fun _ xs _=>ih xs) l) n
noncomputable def zw (n:Nat):List α→Option α:=
 Nat.rec (fun l=>List.rec none (fun x _ _=>some x) l) (fun _ ih l=>List.rec none (fun _ xs _=>ih xs) l) n
noncomputable def nth (n:Nat):List j6→j6:=
 Nat.rec (fun l=>List.rec j6.undef (fun x _ _=>x) l) (fun _ ih l=>List.rec j6.undef (fun _ xs _=>ih xs) l) n
noncomputable def jc (l m:List α):List α:=List.rec m (fun x _ ih=>x::ih) l
noncomputable def len' (l:List α):Nat:=List.rec 0 (fun _ _ ih=>Nat.succ ih) l
noncomputable def kS (n:Nat)(vs:List α):List α→List α:=
 Nat.rec (fun l=>jc vs (kR (len' vs) l)) (fun _ ih l=>List.rec [] (fun x xs _=>x::ih xs) l) n
noncomputable def pY (v:j6)(k:Nat→Nat→Option β):Option β:=match v with
 | .ptr i o=>k i o
 | _=>none
noncomputable def zB (v:j6)(k:IntKind→Int→Option β):Option β:=match v with
 | .int a b=>k a b
 | _=>none
noncomputable def nI (v:j6)(k:Bool→Option β):Option β:=match v with
 | .bool b=>k b
 | _=>none
noncomputable def Di (v:j6)(k:List UInt8→Option β):Option β:=match v with
 | .str s=>k s
 | _=>none
noncomputable def BI (v:j6)(k:List j6→Option β):Option β:=match v with
 | .agg l=>k l
 | _=>none
noncomputable def LG (v:j6)(k:List j6→Option β):Option β:=match v with
 | .tuple l=>k l
 | _=>none
noncomputable def zC (v:j6)(nl:Option β)(k:Nat→Option β):Option β:=match v with
 | .nilMap=>nl
 | .map i=>k i
 | _=>none
noncomputable def vSl (v:j6)(nl:Option β)(k:Nat→Nat→Nat→Nat→Option β)(u:Nat→Nat→Nat→Nat→Option β):Option β:=match v with
 | .nilSlice=>nl
 | .slice a b c d=>k a b c d
 | .sliceU a b c d=>u a b c d
 | _=>none
noncomputable def LH (v:j6)(k:Fn→List j6→List j6→Option β):Option β:=match v with
 | .func f a b=>k f a b
 | _=>none
noncomputable def LJ (n:Int)(k:Nat→Option β):Option β:=match n with
 | .ofNat m=>k m
 | .negSucc _=>none
noncomputable def qQ (v:j6)(k:Nat→Option β):Option β:=zB v fun _ n=>LJ n k
inductive Blk where
 | void
 | dead
 | cells (rs n:Nat) (rows:T (List j6))
 | map (es:List (j6×j6))
 | iter (m:Option Nat) (since:Nat) (seen:List Nat)
 | tail (parent:Nat)
 | loop (st:LoopState) (pend:Option aX) (env:T j6) (params:List (Option Nat)) (assign body:aG)
 | deferred
 deriving Inhabited
structure Mem where
 t:T Blk
 next:Nat
 lim:Nat
noncomputable def Mem.get (m:Mem)(i:Nat):Option Blk:=m.t.get i
noncomputable def Mem.new (m:Mem)(b:Blk):Mem:=⟨m.t.put m.next b,Nat.succ m.next,m.lim⟩
noncomputable def Mem.set (m:Mem)(i:Nat)(b:Blk):Mem:=⟨m.t.put i b,m.next,m.lim⟩
noncomputable def aK (b:Option Blk)(k:Nat→Nat→T (List j6)→Option β):Option β:=match b with
 | some (.cells rs n rows)=>k rs n rows
 | _=>none
noncomputable def vEs (b:Option Blk)(k:List (j6×j6)→Option β):Option β:=match b with
 | some (.map es)=>k es
 | _=>none
noncomputable def cell1 (rs n:Nat)(rows:T (List j6))(off:Nat):Option j6:=
 Bool.rec none (Option.rec none (fun row=>zw (Nat.mod off rs) row) (rows.get (Nat.div off rs))) (Nat.blt (Nat.div off rs) n)
noncomputable def kT (rs n:Nat)(rows:T (List j6))(off k:Nat):Option (List j6):=
 bi (Nat.blt (Nat.div off rs) n) (ob (rows.get (Nat.div off rs)) fun row=>
  bi (Nat.beq (Nat.mod off rs) 0) (bi (Nat.beq k rs) (some row) (takeN k row)) (takeN k (kR (Nat.mod off rs) row))) none
noncomputable def O5 (rs n:Nat)(rows:T (List j6))(k:Nat):Nat→Option (List j6):=
 Nat.rec (fun _=>some []) (fun _ ih off=>ob (cell1 rs n rows off) fun v=>ob (ih (Nat.succ off)) fun l=>some (v::l)) k
noncomputable def Z8 (rs n:Nat)(rows:T (List j6))(off:Nat)(vs:List j6):Option (T (List j6)):=
 bi (Nat.blt (Nat.div off rs) n) (ob (rows.get (Nat.div off rs)) fun row=>
  bi (Nat.ble (Nat.add (Nat.mod off rs) (len' vs)) rs) (some (rows.put (Nat.div off rs) (kS (Nat.mod off rs) vs row))) none) none
noncomputable def dL (rs n:Nat)(vs:List j6):T (List j6)→Nat→Option (T (List j6)):=
 List.rec (fun rows _=>some rows) (fun v _ ih rows off=>ob (Z8 rs n rows off [v]) fun rows'=>ih rows' (Nat.succ off)) vs
noncomputable def rowsOf (rs n:Nat):List j6→Option (List (List j6)):=
 Nat.rec (fun l=>List.rec (some []) (fun _ _ _=>none) l) (fun _ ih l=>ob (takeN rs l) fun r=>ob (ih (kR rs l)) fun rest=>some (r::rest)) n
noncomputable def L6 (v:j6):Bool:=match v with
 | .undef | .agg _ | .tuple _ | .pan _=>false
 | _=>true
noncomputable def Q7 (l:List j6):Bool:=List.rec true (fun v _ ih=>bi (L6 v) ih false) l
noncomputable def storeAt (m:Mem)(id off:Nat)(vs:List j6)(k:Mem→Option β):Option β:=
 bi (Nat.blt id m.lim) none (bi (Q7 vs) (aK (m.get id) fun rs n rows=>ob (Z8 rs n rows off vs) fun rows'=>k (m.set id (.cells rs n rows'))) none)
noncomputable def fE (m:Mem)(id off:Nat)(vs:List j6)(k:Mem→Option β):Option β:=
 List.rec (k m) (fun _ _ _=>bi (Nat.blt id m.lim) none (bi (Q7 vs) (aK (m.get id) fun rs n rows=>ob (dL rs n vs rows off) fun rows'=>k (m.set id (.cells rs n rows'))) none)) vs
abbrev OF:=List j6→T j6→j6
noncomputable def mY (k:Nat):OF:=fun ls _=>nth k ls
noncomputable def oL0:OF:=fun ls _=>List.rec j6.undef (fun x _ _=>x) ls
noncomputable def oL1:OF:=fun ls _=>List.rec j6.undef (fun _ l _=>List.rec j6.undef (fun x _ _=>x) l) ls
noncomputable def oL2:OF:=fun ls _=>List.rec j6.undef (fun _ l _=>List.rec j6.undef (fun _ l _=>List.rec j6.undef (fun x _ _=>x) l) l) ls
noncomputable def oL3:OF:=fun ls _=>List.rec j6.undef (fun _ l _=>List.rec j6.undef (fun _ l _=>List.rec j6.undef (fun _ l _=>List.rec j6.undef (fun x _ _=>x) l) l) l) ls
noncomputable def O9 (v:j6):OF:=fun _ _=>v
noncomputable def gH:T j6→j6:=T.rec .undef (fun _ x _ _ _=>x)
noncomputable def gL (g:T j6→j6):T j6→j6:=T.rec .undef (fun l _ _ _ _=>g l)
noncomputable def gR (g:T j6→j6):T j6→j6:=T.rec .undef (fun _ _ r _ _=>g r)
noncomputable def bM (g:T j6→j6):OF:=fun _ env=>g env
noncomputable def way:Nat→Nat→T j6→j6
 | 0,_=>fun _=>.undef
 | _+1,0=>gH
 | n+1,j+1=>match j%2 with
  | 0=>gL (way n (j / 2))
  | _=>gR (way n (j / 2))
noncomputable def trO:Opd→OF
 | .loc 0=>oL0
 | .loc 1=>oL1
 | .loc 2=>oL2
 | .loc 3=>oL3
 | .loc k=>mY k
 | .slot j=>bM (way 64 j)
 | .con v=>O9 v
noncomputable def kH:List Opd→List OF
 | []=>[]
 | x::l=>trO x::kH l
noncomputable def qc:Option Opd→Option OF
 | none=>none
 | some x=>some (trO x)
noncomputable def evs (l:List OF)(ls:List j6)(env:T j6):List j6:=List.rec [] (fun x _ ih=>x ls env::ih) l
noncomputable def sH:j6→T j6→T j6:=fun v=>T.rec .e (fun l _ r _ _=>.nd l v r)
noncomputable def sL (s:j6→T j6→T j6):j6→T j6→T j6:=fun v=>T.rec .e (fun l x r _ _=>.nd (s v l) x r)
noncomputable def sR (s:j6→T j6→T j6):j6→T j6→T j6:=fun v=>T.rec .e (fun l x r _ _=>.nd l x (s v r))
noncomputable def J4:Nat→Nat→j6→T j6→T j6
 | 0,_=>fun _ t=>t
 | _+1,0=>sH
 | n+1,j+1=>match j%2 with
  | 0=>sL (J4 n (j / 2))
  | _=>sR (J4 n (j / 2))
noncomputable def sNo:j6→T j6→T j6:=fun _ t=>t
noncomputable def trD:Option Nat→j6→T j6→T j6
 | none=>sNo
 | some j=>J4 64 j
noncomputable def w64 (n:Int):Int:=match n with
 | .ofNat m=>bi (Nat.blt m 9223372036854775808) (.ofNat m) (IntKind.i64.wrap (.ofNat m))
 | .negSucc m=>bi (Nat.blt m 9223372036854775808) (.negSucc m) (IntKind.i64.wrap (.negSucc m))
noncomputable def mU (k:IntKind)(n:Int):Int:=match k with
 | .i64=>w64 n
 | k=>k.wrap n
noncomputable def vo:Int→Int→Bool
 | .ofNat a,.ofNat b=>Nat.beq a b
 | .negSucc a,.negSucc b=>Nat.beq a b
 | _,_=>false
noncomputable def tq:Int→Int→Bool
 | .ofNat a,.ofNat b=>Nat.blt a b
 | .negSucc _,.ofNat _=>true
 | .ofNat _,.negSucc _=>false
 | .negSucc a,.negSucc b=>Nat.blt b a
noncomputable def kEq (a b:IntKind):Bool:=match a,b with
 | .i64,.i64=>true
 | a,b=>decide (a=b)
noncomputable def strEq (a:List UInt8):List UInt8→Bool:=
 List.rec (fun b=>List.rec true (fun _ _ _=>false) b) (fun x _ ih b=>List.rec false (fun y ys _=>bi (Nat.beq x.toNat y.toNat) (ih ys) false) b) a
noncomputable def nJ:List UInt8→List UInt8→Bool
 | _,[]=>false
 | [],_ :: _=>true
 | a::x,b::y=>a<b||(a==b&&nJ x y)
noncomputable def FP (k:IntKind)(f:BitVec k.bits→BitVec k.bits→BitVec k.bits)(a b:Int):j6:=
 .int k (k.wrap (f (BitVec.ofInt k.bits a) (BitVec.ofInt k.bits b)).toNat)
noncomputable def abM (b:Int)(r:Option j6):Option j6:=match b with
 | .ofNat 0=>none
 | _=>r
abbrev IB:=IntKind→Int→Int→Option j6
noncomputable def fq:IB:=fun k a b=>some (.int k (mU k (a+b)))
noncomputable def vg:IB:=fun k a b=>some (.int k (mU k (a-b)))
noncomputable def FQ:IB:=fun k a b=>some (.int k (mU k (a*b)))
noncomputable def Ny:IB:=fun k a b=>abM b (some (.int k (mU k (a.tdiv b))))
noncomputable def LK:IB:=fun k a b=>abM b (some (.int k (a.tmod b)))
noncomputable def abN:IB:=fun k a b=>some (FP k (· &&& ·) a b)
noncomputable def iOr:IB:=fun k a b=>some (FP k (· ||| ·) a b)
noncomputable def an8:IB:=fun k a b=>some (FP k (· ^^^ ·) a b)
noncomputable def FT:IB:=fun k a b=>some (FP k (fun x y=>x &&& ~~~y) a b)
noncomputable def iEq:IB:=fun _ a b=>some (.bool (vo a b))
noncomputable def iNe:IB:=fun _ a b=>some (.bool (!vo a b))
noncomputable def iLt:IB:=fun _ a b=>some (.bool (tq a b))
noncomputable def iLe:IB:=fun _ a b=>some (.bool (!tq b a))
noncomputable def iGt:IB:=fun _ a b=>some (.bool (tq b a))
noncomputable def iGe:IB:=fun _ a b=>some (.bool (!tq a b))
noncomputable def iNo:IB:=fun _ _ _=>none
abbrev SB:=List UInt8→List UInt8→Option j6
noncomputable def aL:SB:=fun a b=>bi (Nat.blt (Nat.add (len' a) (len' b)) 9223372036854775808) (some (.str (jc a b))) none
noncomputable def sEq:SB:=fun a b=>some (.bool (strEq a b))
noncomputable def sNe:SB:=fun a b=>some (.bool (!strEq a b))
noncomputable def sLt:SB:=fun a b=>some (.bool (nJ a b))
noncomputable def sLe:SB:=fun a b=>some (.bool (nJ a b||strEq a b))
noncomputable def sGt:SB:=fun a b=>some (.bool (!(nJ a b||strEq a b)))
noncomputable def sGe:SB:=fun a b=>some (.bool (!nJ a b))
noncomputable def aM:SB:=fun _ _=>none
noncomputable def JK:BinOp→IB
 | .add=>fq | .sub=>vg | .mul=>FQ | .quo=>Ny | .rem=>LK | .and=>abN | .or=>iOr | .xor=>an8 | .andNot=>FT
 | .shl=>iNo | .shr=>iNo | .eql=>iEq | .neq=>iNe | .lss=>iLt | .leq=>iLe | .gtr=>iGt | .geq=>iGe
noncomputable def JL:BinOp→SB
 | .add=>aL | .eql=>sEq | .neq=>sNe | .lss=>sLt | .leq=>sLe | .gtr=>sGt | .geq=>sGe
 | _=>aM
noncomputable def FC (f:IB)(g:SB)(x y:j6):Option j6:=match x with
 | .int k a=>zB y fun k' b=>bi (kEq k k') (f k a b) none
 | .str a=>Di y fun b=>g a b
 | _=>none
noncomputable def aaz (x y:j6):Option j6:=zB x fun k a=>qQ y fun m=>some (.int k (mU k (a*2^(min m k.bits))))
noncomputable def aaA (x y:j6):Option j6:=zB x fun k a=>qQ y fun m=>some (.int k (a.fdiv (2^(min m k.bits))))
noncomputable def zD (a b:Bool):Bool:=bi a b (bi b false true)
noncomputable def bn (x y:j6):Option Bool:=zB x fun k a=>zB y fun k' b=>bi (kEq k k') (some (vo a b)) none
noncomputable def qR (x y:j6):Option Bool:=nI x fun a=>nI y fun b=>some (zD a b)
noncomputable def eqStr (x y:j6):Option Bool:=Di x fun a=>Di y fun b=>some (strEq a b)
noncomputable def LM (k:PK):j6→j6→Option Bool:=match k with
 | .i=>bn
 | .b=>qR
 | .s=>eqStr
noncomputable def bN (ks:List PK):List j6→List j6→Option Bool:=
 List.rec (fun _ _=>some true) (fun k _ ih a b=>List.rec none (fun x xs _=>List.rec none (fun y ys _=>ob (LM k x y) fun r=>bi r (ih xs ys) (some false)) b) a) ks
noncomputable def mZ (ks:List PK)(x y:j6):Option Bool:=BI x fun a=>BI y fun b=>bN ks a b
noncomputable def FU (x y:j6):Option Bool:=match x,y with
 | .nilPtr,.nilPtr=>some true
 | .nilPtr,.ptr _ _=>some false
 | .ptr _ _,.nilPtr=>some false
 | _,_=>none
noncomputable def jd (x y:j6):Option Bool:=match x,y with
 | .nilSlice,.nilSlice=>some true
 | .nilSlice,.slice .. | .nilSlice,.sliceU ..=>some false
 | .slice ..,.nilSlice | .sliceU ..,.nilSlice=>some false
 | _,_=>none
noncomputable def FV (x y:j6):Option Bool:=match x,y with
 | .nilMap,.nilMap=>some true
 | .nilMap,.map _ | .map _,.nilMap=>some false
 | _,_=>none
noncomputable def zG (x y:j6):Option Bool:=match x,y with
 | .nilFunc,.nilFunc=>some true
 | .nilFunc,.func .. | .func ..,.nilFunc=>some false
 | _,_=>none
noncomputable def gT (x y:j6):Option Bool:=match x,y with
 | .nilIface,.nilIface=>some true
 | .nilIface,.iface .. | .iface ..,.nilIface=>some false
 | _,_=>none
abbrev EqF:=j6→j6→Option Bool
noncomputable def zx:EqK→EqF
 | .prim .i=>bn | .prim .b=>qR | .prim .s=>eqStr | .flat ks=>mZ ks | .ptr=>FU | .slice=>jd | .map=>FV | .func=>zG | .iface=>gT
abbrev PF:=List j6→T j6→Option j6
noncomputable def bZ (x:OF):PF:=fun ls env=>some (x ls env)
noncomputable def dJ (c a b:OF):PF:=fun ls env=>nI (c ls env) fun t=>some (bi t (a ls env) (b ls env))
noncomputable def lay (ps:List (Nat×Nat×OF))(ls:List j6)(env:T j6):List j6→Option (List j6):=
 List.rec (fun cs=>some cs) (fun p _ ih cs=>
  bi (Nat.beq (len' (p.2.2 ls env).cells) p.2.1) (bi (Nat.ble (Nat.add p.1 p.2.1) (len' cs)) (ih (kS p.1 (p.2.2 ls env).cells cs)) none) none) ps
noncomputable def M8 (zero:List j6)(ps:List (Nat×Nat×OF)):PF:=fun ls env=>ob (lay ps ls env zero) fun l=>some (.agg l)
noncomputable def vO (v:j6):Option j6:=match v with
 | .nilPtr | .nilIface | .nilFunc=>none
 | .func (.func f) a b=>some (.func (.func f) a b)
 | .func ..=>none
 | v=>some v
noncomputable def dM (x:OF):PF:=fun ls env=>vO (x ls env)
noncomputable def pIb (f:IB)(g:SB)(x y:OF):PF:=fun ls env=>FC f g (x ls env) (y ls env)
noncomputable def abO (x y:OF):PF:=fun ls env=>aaz (x ls env) (y ls env)
noncomputable def TF (x y:OF):PF:=fun ls env=>aaA (x ls env) (y ls env)
noncomputable def pEq (f:EqF)(x y:OF):PF:=fun ls env=>ob (f (x ls env) (y ls env)) fun b=>some (.bool b)
noncomputable def pNe (f:EqF)(x y:OF):PF:=fun ls env=>ob (f (x ls env) (y ls env)) fun b=>some (.bool (!b))
noncomputable def FD (x:OF):PF:=fun ls env=>nI (x ls env) fun b=>some (.bool (!b))
noncomputable def LP (x:OF):PF:=fun ls env=>zB (x ls env) fun k n=>some (.int k (mU k (0-n)))
noncomputable def su (k:IntKind)(x:OF):PF:=fun ls env=>zB (x ls env) fun _ n=>some (.int k (mU k n))
noncomputable def vP (t:TypeId)(x:OF):PF:=fun ls env=>some (.iface t (x ls env))
noncomputable def nY (fn:Fn)(a b:List OF):PF:=fun ls env=>some (.func fn (evs a ls env) (evs b ls env))
noncomputable def dN (o:Option OF)(d:Nat)(ls:List j6)(env:T j6)(k:Nat→Option β):Option β:=
 Option.rec (k d) (fun x=>qQ (x ls env) k) o
noncomputable def nZ (x:OF)(lo hi:Option OF):PF:=fun ls env=>Di (x ls env) fun s=>
 dN lo 0 ls env fun l=>dN hi (len' s) ls env fun h=>
  bi (Nat.ble l h) (bi (Nat.ble h (len' s)) (ob (takeN (Nat.sub h l) (kR l s)) fun r=>some (.str r)) none) none
noncomputable def LQ (es n:Nat)(x:OF)(lo hi:Option OF):PF:=fun ls env=>pY (x ls env) fun id off=>
 dN lo 0 ls env fun l=>dN hi n ls env fun h=>
  bi (Nat.ble l h) (bi (Nat.ble h n) (some (.slice id (bi (Nat.beq l n) off (Nat.add off (Nat.mul l es))) (Nat.sub h l) (Nat.sub n l))) none) none
noncomputable def I6 (o:Nat)(x:OF):PF:=fun ls env=>pY (x ls env) fun id off=>some (.ptr id (Nat.add off o))
noncomputable def FW (off:Nat)(x:OF):PF:=fun ls env=>BI (x ls env) fun cs=>zw off cs
noncomputable def JM (off k:Nat)(x:OF):PF:=fun ls env=>BI (x ls env) fun cs=>ob (takeN k (kR off cs)) fun l=>some (.agg l)
noncomputable def idx (len:Nat)(v:j6)(k:Nat→Option β):Option β:=qQ v fun i=>bi (Nat.blt i len) (k i) none
noncomputable def K6 (es:Nat)(x i:OF):PF:=fun ls env=>
 vSl (x ls env) none (fun id off len _=>idx len (i ls env) fun k=>some (.ptr id (Nat.add off (Nat.mul k es))))
  (fun id off len _=>idx len (i ls env) fun k=>some (.ptr id (Nat.add off (Nat.mul k es))))
noncomputable def fF (es n:Nat)(x i:OF):PF:=fun ls env=>pY (x ls env) fun id off=>idx n (i ls env) fun k=>some (.ptr id (Nat.add off (Nat.mul k es)))
noncomputable def LU (es n:Nat)(x i:OF):PF:=fun ls env=>BI (x ls env) fun cs=>idx n (i ls env) fun k=>zw (Nat.mul k es) cs
noncomputable def FX (es n sz:Nat)(x i:OF):PF:=fun ls env=>BI (x ls env) fun cs=>idx n (i ls env) fun k=>ob (takeN sz (kR (Nat.mul k es) cs)) fun l=>some (.agg l)
noncomputable def wU (x i:OF):PF:=fun ls env=>Di (x ls env) fun s=>qQ (i ls env) fun k=>ob (zw k s) fun b=>some (.int .u8 b.toNat)
noncomputable def pExt (x:OF)(i:Nat):PF:=fun ls env=>LG (x ls env) fun l=>zw i l
noncomputable def lenOf (v:j6):Option Nat:=match v with
 | .nilSlice=>some 0
 | .slice _ _ n _=>some n
 | .sliceU _ _ n _=>some n
 | .str s=>some (len' s)
 | _=>none
noncomputable def wV (x:OF):PF:=fun ls env=>vSl (x ls env) (some (.int .i64 0)) (fun _ _ n _=>some (.int .i64 (.ofNat n))) (fun _ _ n _=>some (.int .i64 (.ofNat n)))
noncomputable def wW (x:OF):PF:=fun ls env=>Di (x ls env) fun s=>some (.int .i64 (.ofNat (len' s)))
noncomputable def Uq (x:OF):PF:=fun ls env=>vSl (x ls env) (some (.int .i64 0)) (fun _ _ _ c=>some (.int .i64 (.ofNat c))) (fun _ _ _ _=>none)
noncomputable def mm2 (mx:Bool)(x y:j6):Option j6:=zB x fun k a=>zB y fun _ b=>some (.int k (bi mx (bi (tq a b) b a) (bi (tq b a) b a)))
noncomputable def FY (mx:Bool)(ys:List j6):j6→Option j6:=List.rec (fun x=>some x) (fun y _ ih x=>ob (mm2 mx x y) ih) ys
noncomputable def pMm (mx:Bool)(x:OF)(xs:List OF):PF:=fun ls env=>FY mx (evs xs ls env) (x ls env)
noncomputable def FZ (t:TypeId)(zero:j6)(ok:Bool)(v:j6):Option j6:=match v with
 | .iface u y=>bi (Nat.beq u t) (some (bi ok (.tuple [y,.bool true]) y)) (bi ok (some (.tuple [zero,.bool false])) none)
 | .nilIface=>bi ok (some (.tuple [zero,.bool false])) none
 | _=>none
noncomputable def nK (t:TypeId)(zero:j6)(ok:Bool)(x:OF):PF:=fun ls env=>FZ t zero ok (x ls env)
noncomputable def Ej:List (Nat×Nat×Opd)→List (Nat×Nat×OF)
 | []=>[]
 | p::l=>(p.1,p.2.1,trO p.2.2)::Ej l
noncomputable def trP:POp→PF
 | .mov x=>bZ (trO x)
 | .pick c a b=>dJ (trO c) (trO a) (trO b)
 | .build z ps=>M8 z (Ej ps)
 | .nilCheck x=>dM (trO x)
 | .ib op x y=>match op with
  | .shl=>abO (trO x) (trO y)
  | .shr=>TF (trO x) (trO y)
  | op=>pIb (JK op) (JL op) (trO x) (trO y)
 | .eq neg k x y=>match neg with
  | true=>pNe (zx k) (trO x) (trO y)
  | false=>pEq (zx k) (trO x) (trO y)
 | .not x=>FD (trO x)
 | .neg x=>LP (trO x)
 | .conv k x=>su k (trO x)
 | .mkIface t x=>vP t (trO x)
 | .mkFunc fn a b=>nY fn (kH a) (kH b)
 | .slStr x lo hi=>nZ (trO x) (qc lo) (qc hi)
 | .slArr es n x lo hi=>LQ es n (trO x) (qc lo) (qc hi)
 | .fAddr o x=>I6 o (trO x)
 | .fld off size x=>match size with
  | none=>FW off (trO x)
  | some k=>JM off k (trO x)
 | .iAddr es x i=>K6 es (trO x) (trO i)
 | .iAddrArr es n x i=>fF es n (trO x) (trO i)
 | .iArr es n size x i=>match size with
  | none=>LU es n (trO x) (trO i)
  | some k=>FX es n k (trO x) (trO i)
 | .iStr x i=>wU (trO x) (trO i)
 | .ext x i=>pExt (trO x) i
 | .len x=>wV (trO x)
 | .lenS x=>wW (trO x)
 | .cap x=>Uq (trO x)
 | .mm mx x xs=>pMm mx (trO x) (kH xs)
 | .assert t z ok x=>nK t z ok (trO x)
abbrev RF:=List j6→T j6→Mem→Option j6
noncomputable def kI (a:OF):RF:=fun ls env m=>pY (a ls env) fun id off=>aK (m.get id) fun rs n rows=>cell1 rs n rows off
noncomputable def P6 (k:Nat)(a:OF):RF:=fun ls env m=>pY (a ls env) fun id off=>aK (m.get id) fun rs n rows=>ob (kT rs n rows off k) fun l=>some (.agg l)
noncomputable def findKey (f:EqF)(k:j6)(es:List (j6×j6)):Nat→Option (Option (Nat×j6)):=
 List.rec (fun _=>some none) (fun e _ ih i=>ob (f k e.1) fun b=>bi b (some (some (i,e.2))) (ih (Nat.succ i))) es
noncomputable def found (ok:Bool)(zero:j6)(o:Option (Nat×j6)):Option j6:=
 Option.rec (some (bi ok (.tuple [zero,.bool false]) zero)) (fun p=>some (bi ok (.tuple [p.2,.bool true]) p.2)) o
noncomputable def bI (f:EqF)(n:Nat)(k:j6)(es:List (j6×j6)):Option (Option (Nat×j6)):=
 bi (Nat.beq (len' k.cells) n) (List.rec (ob (f k k) fun _=>some none) (fun _ _ _=>findKey f k es 0) es) none
noncomputable def fT (f:EqF)(n:Nat)(zero:j6)(ok:Bool)(mp k:OF):RF:=fun ls env m=>
 zC (mp ls env) (ob (bI f n (k ls env) []) fun r=>found ok zero r) fun id=>vEs (m.get id) fun es=>ob (bI f n (k ls env) es) fun r=>found ok zero r
noncomputable def Ur (x:OF):RF:=fun ls env m=>zC (x ls env) (some (.int .i64 0)) fun id=>vEs (m.get id) fun es=>some (.int .i64 (.ofNat (len' es)))
noncomputable def bytesOf:List UInt8→List j6
 | []=>[]
 | b::l=>.int .u8 b.toNat::bytesOf l
noncomputable def byteOf:List j6→Option (List UInt8)
 | []=>some []
 | .int .u8 (.ofNat n)::l=>match byteOf l with
  | some s=>some (UInt8.ofNat n::s)
  | none=>none
 | _ :: _=>none
noncomputable def R9 (m:Mem)(id off n:Nat):Option (List j6):=
 Nat.rec (some []) (fun _ _=>aK (m.get id) fun rs k rows=>O5 rs k rows n off) n
noncomputable def dh (m:Mem)(es n:Nat)(v:j6):Option (List j6):=match v with
 | .nilSlice=>some []
 | .slice id off _ _=>R9 m id off (Nat.mul n es)
 | .sliceU id off _ _=>R9 m id off (Nat.mul n es)
 | .str s=>some (bytesOf (s.take n))
 | _=>none
noncomputable def aN (x:OF):RF:=fun ls env m=>
 vSl (x ls env) (some (.str [])) (fun id off len _=>ob (R9 m id off len) fun l=>ob (byteOf l) fun s=>some (.str s))
  (fun id off len _=>ob (R9 m id off len) fun l=>ob (byteOf l) fun s=>some (.str s))
noncomputable def JN (b:Option Blk)(nl:Option β)(k:Nat→Nat→List Nat→Option β):Option β:=match b with
 | some (.iter none _ _)=>nl
 | some (.iter (some mp) since seen)=>k mp since seen
 | _=>none
noncomputable def LV (it:OF):RF:=fun ls env m=>pY (it ls env) fun id off=>bi (Nat.beq off 0)
 (JN (m.get id) none fun mp since seen=>List.rec none (fun i _ _=>vEs (m.get mp) fun es=>bi (Nat.beq (len' es) since) (ob (zw i es) fun e=>some (.tuple [e.1,e.2])) none) seen) none
def JO:EqK→Nat
 | .flat ks=>ks.length
 | _=>1
noncomputable def trR:ROp→RF
 | .load size a=>match size with
  | none=>kI (trO a)
  | some k=>P6 k (trO a)
 | .look kk zero ok m k=>fT (zx kk) (JO kk) zero ok (trO m) (trO k)
 | .lenM x=>Ur (trO x)
 | .bytesStr x=>aN (trO x)
 | .entry it=>LV (trO it)
abbrev LR:=Option (j6×Option Blk)
abbrev LF:=List j6→T j6→Nat→LR
noncomputable def D9 (cs:List j6):Blk:=.cells (len' cs) 1 (.nd .e cs .e)
noncomputable def jI (es n:Nat)(cells:List j6)(k:Blk→Option β):Option β:=ob (rowsOf es n cells) fun rows=>k (.cells es n (T.ofList rows))
noncomputable def dO (zero:List j6):LF:=fun _ _ nid=>some (.ptr nid 0,some (D9 zero))
noncomputable def Nz (x:OF):LF:=fun ls env nid=>some (.ptr nid 0,some (D9 (x ls env).cells))
noncomputable def Q0 (zero:List j6)(n:Nat):List j6:=Nat.rec [] (fun _ ih=>jc zero ih) n
noncomputable def J8 (es len:Nat)(zero:List j6)(ps:List (Nat×Nat×OF)):LF:=fun ls env nid=>
 ob (lay ps ls env (Q0 zero len)) fun cells=>jI es len cells fun b=>some (.slice nid 0 len len,some b)
noncomputable def zH:LF:=fun _ _ nid=>some (.map nid,some (.map []))
noncomputable def oh (es bytes:Nat)(zero:List j6)(len cap:OF):LF:=fun ls env nid=>
 qQ (len ls env) fun l=>qQ (cap ls env) fun c=>
  bi (Nat.ble l c) (bi (Nat.ble (Nat.mul bytes c) 281474976710656) (bi (Nat.blt c 9223372036854775808)
   (some (.slice nid 0 l c,some (.cells es c (T.rep zero c .e 0)))) none) none) none
noncomputable def zI (x:OF):LF:=fun ls env nid=>Di (x ls env) fun s=>jI 1 (len' s) (bytesOf s) fun b=>some (.sliceU nid 0 (len' s) 1,some b)
noncomputable def Q6 (nid es:Nat)(x:j6)(lo:Nat)(hi:Option Nat):LR:=
 vSl x (bi (Nat.beq lo 0) (Option.rec (some (.nilSlice,none)) (fun h=>bi (Nat.beq h 0) (some (.nilSlice,none)) none) hi) none)
  (fun id off len cap=>Option.rec (known id off cap len) (fun h=>known id off cap h) hi)
  (fun id off len es'=>Option.rec (unk id off len es' len) (fun h=>unk id off len es' h) hi)
where
 known (id off cap h:Nat):LR:=bi (Nat.ble lo h) (bi (Nat.ble h cap)
  (some (.slice id (bi (Nat.beq lo cap) off (Nat.add off (Nat.mul lo es))) (Nat.sub h lo) (Nat.sub cap lo),none)) none) none
 unk (id off len es' h:Nat):LR:=bi (Nat.ble lo h) (bi (Nat.ble h len) (bi (Nat.beq es es')
  (bi (Nat.blt lo len) (some (.sliceU id (Nat.add off (Nat.mul lo es)) (Nat.sub h lo) es,none))
   (bi (Nat.beq lo 0) (some (.sliceU id off (Nat.sub h lo) es,none)) (some (.sliceU nid 0 0 es,some (.tail id))))) none) none) none
noncomputable def lSl (es:Nat)(x:OF)(lo hi:Option OF):LF:=fun ls env nid=>dN lo 0 ls env fun l=>
 Option.rec (Q6 nid es (x ls env) l none) (fun h=>qQ (h ls env) fun h=>Q6 nid es (x ls env) l (some h)) hi
noncomputable def trL:LOp→LF
 | .alloc zero=>dO zero
 | .box x=>Nz (trO x)
 | .buildSlice es len zero ps=>J8 es len zero (Ej ps)
 | .mkMap=>zH
 | .mkSlice es bytes zero l c=>oh es bytes zero (trO l) (trO c)
 | .strBytes x=>zI (trO x)
 | .sl es x lo hi=>lSl es (trO x) (qc lo) (qc hi)
structure VM where
 v:j6
 m:Mem
abbrev tu:=Option (List VM)
abbrev M6:=Fn→List j6→Mem→tu
abbrev EF:=M6→List j6→T j6→Mem→tu
noncomputable def one (v:j6)(m:Mem):tu:=some [⟨v,m⟩]
noncomputable def L9 (size:Nat)(a x:OF):EF:=fun _ ls env m=>pY (a ls env) fun id off=>
 bi (Nat.beq (len' (x ls env).cells) size) (storeAt m id off (x ls env).cells fun m'=>one .undef m') none
noncomputable def iJ (es:List (j6×j6))(k v:j6):Nat→List (j6×j6):=
 List.rec (fun _=>[]) (fun e es ih i=>Nat.rec ((k,v)::es) (fun j _=>e::ih j) i) es
noncomputable def gU (f:EqF)(n:Nat)(mp k x:OF):EF:=fun _ ls env m=>zC (mp ls env) none fun id=>bi (Nat.blt id m.lim) none
 (vEs (m.get id) fun es=>ob (bI f n (k ls env) es) fun r=>
  Option.rec (one .undef (m.set id (.map (jc es [(k ls env,x ls env)])))) (fun p=>ob (zw p.1 es) fun e=>
   bi (Nat.beq (len' e.1.cells) n) (one .undef (m.set id (.map (iJ es (k ls env) (x ls env) p.1)))) none) r)
noncomputable def LW (x:OF):EF:=fun _ ls env m=>zC (x ls env) (one (.ptr m.next 0) (m.new (.iter none 0 [])))
 fun id=>vEs (m.get id) fun es=>one (.ptr m.next 0) (m.new (.iter (some id) (len' es) []))
noncomputable def Us (n:Nat)(l:List Nat):Bool:=List.rec false (fun x _ ih=>bi (Nat.beq x n) true ih) l
noncomputable def nexts (m:Mem)(id mp since:Nat)(seen:List Nat)(es:List (j6×j6)):Nat→List VM:=
 List.rec (fun _=>[]) (fun e _ ih i=>bi (Us i seen) (ih (Nat.succ i))
  (⟨.tuple [.bool true,e.1,e.2],m.set id (.iter (some mp) since (i::seen))⟩::ih (Nat.succ i))) es
noncomputable def Ga (m:Mem)(l:List VM):List VM:=List.rec [⟨.tuple [.bool false],m⟩] (fun x xs _=>x::xs) l
noncomputable def Ut (it:OF):EF:=fun _ ls env m=>pY (it ls env) fun id off=>bi (Nat.beq off 0) (bi (Nat.blt id m.lim) none
 (JN (m.get id) (one (.tuple [.bool false]) m) fun mp since seen=>vEs (m.get mp) fun es=>
  bi (Nat.beq (len' es) since) (some (Ga m (nexts m id mp since seen es 0))) none)) none
noncomputable def big (n bytes es:Nat):Bool:=bi (Nat.ble (Nat.mul (Nat.add (Nat.mul 2 n) 2048) bytes) 281474976710656) (bi (Nat.ble 1 es) (Nat.ble 1 bytes) false) false
noncomputable def grown (m:Mem)(es n:Nat)(cells:List j6):tu:=jI es n cells fun b=>one (.sliceU m.next 0 n es) (m.new b)
noncomputable def LX (m:Mem)(es bytes n:Nat)(new:List j6):tu:=
 Nat.rec (one .nilSlice m) (fun _ _=>bi (big n bytes es) (grown m es n new) none) n
noncomputable def om (m:Mem)(es bytes n:Nat)(new:List j6)(id off len cap:Nat):tu:=
 bi (Nat.ble (Nat.add len n) cap) (fE m id (Nat.add off (Nat.mul len es)) new fun m'=>one (.slice id off (Nat.add len n) cap) m')
  (bi (big (Nat.add len n) bytes es) (ob (R9 m id off (Nat.mul len es)) fun old=>grown m es (Nat.add len n) (jc old new)) none)
noncomputable def El (b:Option Blk)(c:Nat→Nat→T (List j6)→Option β)(k:Nat→Option β):Option β:=match b with
 | some (.cells rs n rows)=>c rs n rows
 | some (.tail p)=>k p
 | _=>none
noncomputable def Dj (m:Mem)(es bytes n:Nat)(new:List j6)(id off len es':Nat):tu:=
 Nat.rec (one (.sliceU id off len es') m) (fun _ _=>bi (Nat.beq es es') (bi (big (Nat.add len n) bytes es) (bi (Nat.ble m.lim id) (bi (Q7 new)
  (El (m.get id)
   (fun rs k rows=>
    bi (bi (Nat.beq rs es) (bi (Nat.beq off 0) (bi (Nat.ble len k) (bi (Nat.beq n 1) (Nat.beq (len' new) es) false) false) false) false)
     (one (.sliceU m.next 0 (Nat.succ len) es) ((m.set id .dead).new (.cells es (Nat.succ len) (rows.put len new))))
     (ob (O5 rs k rows (Nat.mul len es) off) fun old=>grown (m.set id .dead) es (Nat.add len n) (jc old new)))
   (fun p=>aK (m.get p) fun _ _ _=>bi (Nat.ble m.lim p) (bi (Nat.beq len 0) (grown (m.set p .dead) es n new) none) none)) none) none) none) none) n
noncomputable def wX (m:Mem)(es bytes n:Nat)(new:List j6)(s:j6):tu:=
 vSl s (LX m es bytes n new) (fun a b c d=>om m es bytes n new a b c d) (fun a b c d=>Dj m es bytes n new a b c d)
noncomputable def nX (es bytes:Nat)(s x:OF):EF:=fun _ ls env m=>ob (lenOf (x ls env)) fun n=>ob (dh m es n (x ls env)) fun new=>wX m es bytes n new (s ls env)
noncomputable def NA (es:Nat)(zero:List j6)(bytes:Nat)(s x:OF):EF:=fun _ ls env m=>qQ (x ls env) fun n=>
 bi (Nat.ble (Nat.mul n bytes) 281474976710656) (bi (Nat.blt n 9223372036854775808) (wX m es bytes n (Q0 zero n) (s ls env)) none) none
noncomputable def NC (es:Nat)(d s:OF):EF:=fun _ ls env m=>ob (lenOf (s ls env)) fun n=>
 vSl (d ls env) (one (.int .i64 0) m) (fun id off len _=>go m n id off len (s ls env)) (fun id off len _=>go m n id off len (s ls env))
where
 go (m:Mem) (n id off len:Nat) (s:j6):tu:=ob (dh m es (Nat.min n len) s) fun cells=>fE m id off cells fun m'=>one (.int .i64 (.ofNat (Nat.min n len))) m'
noncomputable def Gb (zero:List j6)(x:OF):EF:=fun _ ls env m=>
 vSl (x ls env) (one (.tuple []) m) (fun id off len _=>fE m id off (Q0 zero len) fun m'=>one (.tuple []) m')
  (fun id off len _=>fE m id off (Q0 zero len) fun m'=>one (.tuple []) m')
noncomputable def E8 (f:FuncId)(args:List OF):EF:=fun cf ls env m=>cf (.func f) (evs args ls env) m
noncomputable def ND (cf:M6)(m:Mem)(args:List j6)(v:j6):tu:=LH v fun fn a b=>match fn with
 | .func f=>cf (.func f) (jc a (jc args b)) m
 | .yield l=>cf (.yield l) (jc a args) m
 | _=>none
noncomputable def iK (f:OF)(args:List OF):EF:=fun cf ls env m=>ND cf m (evs args ls env) (f ls env)
noncomputable def aaB (v:j6)(m:Mem):tu:=match v with
 | .iface t x=>one (.pan (.iface t x)) m
 | _=>none
noncomputable def tC (x:OF):EF:=fun _ ls env m=>aaB (x ls env) m
noncomputable def Uu:EF:=fun _ _ _ _=>none
noncomputable def trE:EOp→EF
 | .store size a x=>L9 size (trO a) (trO x)
 | .mapSet kk m k x=>gU (zx kk) (JO kk) (trO m) (trO k) (trO x)
 | .range x=>LW (trO x)
 | .next it=>Ut (trO it)
 | .app es zeros zero bytes s x=>match zeros with
  | true=>NA es zero bytes (trO s) (trO x)
  | false=>nX es bytes (trO s) (trO x)
 | .copy es d s=>NC es (trO d) (trO s)
 | .clear zero x=>Gb zero (trO x)
 | .call f args=>E8 f (kH args)
 | .callv f args=>iK (trO f) (kH args)
 | .panic x=>tC (trO x)
 | .defer _ _=>Uu
 | .recover=>Uu
 | .bad=>Uu
noncomputable def Em (f:α→Option (List β))(l:List α):Option (List β):=
 List.rec (some []) (fun a _ ih=>ob (f a) fun x=>ob ih fun y=>some (x++y)) l
noncomputable def bnd (x:Option (List α))(f:α→Option (List β)):Option (List β):=
 Option.rec none (fun l=>List.rec (some []) (fun a t _=>List.rec (f a) (fun _ _ _=>Em f l) t) l) x
structure EM where
 env:T j6
 m:Mem
 px:Option j6
 mks:List Mk
noncomputable def jq (v:j6)(p:j6→β)(q:β):β:=match v with
 | .pan x=>p x
 | _=>q
abbrev RC:=M6→List j6→T j6→Mem→Option (List EM)
noncomputable def x9:RC:=fun _ _ env m=>some [⟨env,m,none,[]⟩]
noncomputable def rcP (f:PF)(d:j6→T j6→T j6)(k:RC):RC:=fun cf ls env m=>Option.rec none (fun v=>k cf (v::ls) (d v env) m) (f ls env)
noncomputable def l9 (f:PF)(k:RC):RC:=fun cf ls env m=>Option.rec none (fun v=>k cf (v::ls) env m) (f ls env)
noncomputable def rcR (f:RF)(d:j6→T j6→T j6)(k:RC):RC:=fun cf ls env m=>Option.rec none (fun v=>k cf (v::ls) (d v env) m) (f ls env m)
noncomputable def G8 (f:RF)(k:RC):RC:=fun cf ls env m=>Option.rec none (fun v=>k cf (v::ls) env m) (f ls env m)
noncomputable def JC (m:Mem)(b:Option Blk):Mem:=Option.rec m (fun b=>m.new b) b
noncomputable def rcL (f:LF)(d:j6→T j6→T j6)(k:RC):RC:=fun cf ls env m=>ob (f ls env m.next) fun r=>k cf (r.1::ls) (d r.1 env) (JC m r.2)
noncomputable def bg (f:LF)(k:RC):RC:=fun cf ls env m=>Option.rec none (fun r=>k cf (r.1::ls) env (JC m r.2)) (f ls env m.next)
noncomputable def H9 (f:EF)(k:RC):RC:=fun cf ls env m=>bnd (f cf ls env m) fun r=>jq r.v (fun x=>some [⟨env,r.m,some x,[]⟩]) (k cf (r.v::ls) env r.m)
noncomputable def rcE (f:EF)(d:j6→T j6→T j6)(k:RC):RC:=fun cf ls env m=>bnd (f cf ls env m) fun r=>jq r.v (fun x=>some [⟨env,r.m,some x,[]⟩]) (k cf (r.v::ls) (d r.v env) r.m)
noncomputable def En (f:OF)(args:List OF):RC:=fun _ ls env m=>LH (f ls env) fun fn a b=>some [⟨env,m,none,[.d (.func fn a b) (evs args ls env)]⟩]
noncomputable def isB (w:Bool)(v:j6):Bool:=match v with
 | .bool b=>zD b w
 | _=>false
noncomputable def gP (x:OF)(w:Bool)(f:PF):PF:=fun ls env=>bi (isB w (x ls env)) (f ls env) (some .undef)
noncomputable def gRd (x:OF)(w:Bool)(f:RF):RF:=fun ls env m=>bi (isB w (x ls env)) (f ls env m) (some .undef)
noncomputable def gLk (x:OF)(w:Bool)(f:LF):LF:=fun ls env i=>bi (isB w (x ls env)) (f ls env i) (some (.undef,none))
noncomputable def gE (x:OF)(w:Bool)(f:EF):EF:=fun cf ls env m=>bi (isB w (x ls env)) (f cf ls env m) (one .undef m)
noncomputable def FE (g:Option (Opd×Bool))(f:PF):PF:=match g with
 | none=>f
 | some (x,w)=>gP (trO x) w f
noncomputable def Dk (g:Option (Opd×Bool))(f:RF):RF:=match g with
 | none=>f
 | some (x,w)=>gRd (trO x) w f
noncomputable def NG (g:Option (Opd×Bool))(f:LF):LF:=match g with
 | none=>f
 | some (x,w)=>gLk (trO x) w f
noncomputable def JQ (g:Option (Opd×Bool))(f:EF):EF:=match g with
 | none=>f
 | some (x,w)=>gE (trO x) w f
noncomputable def trI (o:AOp)(d:Option Nat)(g:Option (Opd×Bool))(k:RC):RC:=match o with
 | .p o=>match d with
  | none=>l9 (FE g (trP o)) k
  | some j=>rcP (FE g (trP o)) (trD (some j)) k
 | .r o=>match d with
  | none=>G8 (Dk g (trR o)) k
  | some j=>rcR (Dk g (trR o)) (trD (some j)) k
 | .a o=>match d with
  | none=>bg (NG g (trL o)) k
  | some j=>rcL (NG g (trL o)) (trD (some j)) k
 | .e o=>match d with
  | none=>H9 (JQ g (trE o)) k
  | some j=>rcE (JQ g (trE o)) (trD (some j)) k
def oo (i:Inst):Option (Opd×List Opd):=match i.op,i.guard,i.dst with
 | .e (.defer f as),none,none=>some (f,as)
 | _,_,_=>none
noncomputable def zJ (i:Inst):RC:=match oo i with
 | some p=>En (trO p.1) (kH p.2)
 | none=>trI i.op i.dst i.guard x9
noncomputable def fU:List Inst→RC
 | []=>x9
 | [i]=>zJ i
 | i::j::l=>trI i.op i.dst i.guard (fU (j::l))
def qd (f:Opd→Opd):POp→POp
 | .mov x=>.mov (f x)
 | .pick a b c=>.pick (f a) (f b) (f c)
 | .build z ps=>.build z (ps.map fun p=>(p.1,p.2.1,f p.2.2))
 | .nilCheck x=>.nilCheck (f x)
 | .ib o x y=>.ib o (f x) (f y)
 | .eq n k x y=>.eq n k (f x) (f y)
 | .not x=>.not (f x)
 | .neg x=>.neg (f x)
 | .conv k x=>.conv k (f x)
 | .mkIface t x=>.mkIface t (f x)
 | .mkFunc g a b=>.mkFunc g (a.map f) (b.map f)
 | .slStr x a b=>.slStr (f x) (a.map f) (b.map f)
 | .slArr e n x a b=>.slArr e n (f x) (a.map f) (b.map f)
 | .fAddr o x=>.fAddr o (f x)
 | .fld o s x=>.fld o s (f x)
 | .iAddr e x i=>.iAddr e (f x) (f i)
 | .iAddrArr e n x i=>.iAddrArr e n (f x) (f i)
 | .iArr e n s x i=>.iArr e n s (f x) (f i)
 | .iStr x i=>.iStr (f x) (f i)
 | .ext x i=>.ext (f x) i
 | .len x=>.len (f x)
 | .lenS x=>.lenS (f x)
 | .cap x=>.cap (f x)
 | .mm m x xs=>.mm m (f x) (xs.map f)
 | .assert t z ok x=>.assert t z ok (f x)
def JD (f:Opd→Opd):ROp→ROp
 | .load s a=>.load s (f a)
 | .look k z o m x=>.look k z o (f m) (f x)
 | .lenM x=>.lenM (f x)
 | .bytesStr x=>.bytesStr (f x)
 | .entry x=>.entry (f x)
def LY (f:Opd→Opd):LOp→LOp
 | .alloc z=>.alloc z
 | .box x=>.box (f x)
 | .buildSlice e l z ps=>.buildSlice e l z (ps.map fun p=>(p.1,p.2.1,f p.2.2))
 | .mkMap=>.mkMap
 | .mkSlice e b z l c=>.mkSlice e b z (f l) (f c)
 | .strBytes x=>.strBytes (f x)
 | .sl e x a b=>.sl e (f x) (a.map f) (b.map f)
def Eo (f:Opd→Opd):EOp→EOp
 | .store s a x=>.store s (f a) (f x)
 | .mapSet k a b c=>.mapSet k (f a) (f b) (f c)
 | .range x=>.range (f x)
 | .next x=>.next (f x)
 | .app e z zs b s x=>.app e z zs b (f s) (f x)
 | .copy e d s=>.copy e (f d) (f s)
 | .clear z x=>.clear z (f x)
 | .call g a=>.call g (a.map f)
 | .callv g a=>.callv (f g) (a.map f)
 | .defer g a=>.defer (f g) (a.map f)
 | .panic x=>.panic (f x)
 | .recover=>.recover
 | .bad=>.bad
def mapA (f:Opd→Opd):AOp→AOp
 | .p o=>.p (qd f o)
 | .r o=>.r (JD f o)
 | .a o=>.a (LY f o)
 | .e o=>.e (Eo f o)
def bump:Opd→Opd
 | .loc k=>.loc (k+1)
 | x=>x
def rn (r:List Opd):Opd→Opd
 | .loc k=>r.getD k (.con .undef)
 | x=>x
def tF (j:Nat):List Inst→Bool
 | []=>false
 | i::l=>i.dst==some j||tF j l
def kJ (r:List Opd):List Inst→List Inst
 | []=>[]
 | i::l=>
  let keep:=⟨mapA (rn r) i.op,i.dst,i.guard.map fun p=>(rn r p.1,p.2)⟩::kJ (.loc 0::r.map bump) l
  match i.op,i.dst,i.guard with
  | .p (.mov x),none,none=>match rn r x with
   | .slot j=>bif tF j l then keep else kJ (.slot j::r) l
   | y=>kJ (y::r) l
  | _,_,_=>keep
noncomputable def wY (f:j6→j6→Bool)(a:List j6):List j6→Bool:=
 List.rec (fun b=>List.rec true (fun _ _ _=>false) b) (fun x _ ih b=>List.rec false (fun y ys _=>bi (f x y) (ih ys) false) b) a
noncomputable def cu (n:Nat):j6→j6→Bool:=Nat.rec (fun _ _=>false) (fun _ ih x y=>match x,y with
  | .bool a,.bool b=>zD a b
  | .int k a,.int k' b=>bi (kEq k k') (vo a b) false
  | .str a,.str b=>strEq a b
  | .nilPtr,.nilPtr=>true
  | .ptr a b,.ptr c d=>bi (Nat.beq a c) (Nat.beq b d) false
  | .nilSlice,.nilSlice=>true
  | .slice a b c d,.slice a' b' c' d'=>bi (Nat.beq a a') (bi (Nat.beq b b') (bi (Nat.beq c c') (Nat.beq d d') false) false) false
  | .sliceU a b c d,.sliceU a' b' c' d'=>bi (Nat.beq a a') (bi (Nat.beq b b') (bi (Nat.beq c c') (Nat.beq d d') false) false) false
  | .nilMap,.nilMap=>true
  | .map a,.map b=>Nat.beq a b
  | .nilFunc,.nilFunc=>true
  | .func (.func f) a b,.func (.func g) c d=>bi (Nat.beq f g) (bi (wY ih a c) (wY ih b d) false) false
  | .func (.yield f) a b,.func (.yield g) c d=>bi (Nat.beq f g) (bi (wY ih a c) (wY ih b d) false) false
  | .nilIface,.nilIface=>true
  | .iface t a,.iface u b=>bi (Nat.beq t u) (ih a b) false
  | .agg a,.agg b=>wY ih a b
  | .tuple a,.tuple b=>wY ih a b
  | .undef,.undef=>true
  | _,_=>false) n
abbrev DC:=M6→Nat→List j6→T j6→Mem→List Mem→Option (List EM)
noncomputable def stable (f:RF)(ls:List j6)(env:T j6)(v:j6)(n:Nat):List Mem→Bool:=
 Nat.rec (fun _=>true) (fun _ ih gs=>List.rec false (fun m ms _=>bi (Option.rec false (fun u=>cu 100 u v) (f ls env m)) (ih ms) false) gs) n
noncomputable def tl (l:List Mem):List Mem:=List.rec [] (fun _ t _=>t) l
noncomputable def U8:DC:=fun _ _ _ env m _=>some [⟨env,m,none,[]⟩]
noncomputable def dcP (f:PF)(d:j6→T j6→T j6)(k:DC):DC:=fun cf b ls env m gs=>ob (f ls env) fun v=>k cf b (v::ls) (d v env) m gs
noncomputable def hd (m:Mem)(gs:List Mem):Mem:=List.rec m (fun g _ _=>g) gs
noncomputable def isVoid (b:Option Blk):Bool:=match b with
 | some .void=>true
 | _=>false
noncomputable def kU (i:Nat)(gs:List Mem):Bool:=List.rec true (fun g _ ih=>bi (isVoid (g.get i)) ih false) gs
noncomputable def NH (x:Option (List α))(f:α→Option β):Option β:=
 Option.rec none (fun l=>List.rec none (fun a t _=>List.rec (f a) (fun _ _ _=>none) t) l) x
noncomputable def dcR (f:RF)(c:Nat)(d:j6→T j6→T j6)(k:DC):DC:=fun cf b ls env m gs=>ob (f ls env (hd m gs)) fun v=>
 bi (stable f ls env v c (tl gs)) (k cf b (v::ls) (d v env) m gs) none
noncomputable def isCells (b:Option Blk):Bool:=match b with
 | some (.cells _ _ _)=>true
 | _=>false
noncomputable def abP (x:OF)(c:Nat)(d:j6→T j6→T j6)(k:DC):DC:=fun cf b ls env m gs=>match x ls env with
 | .slice id _ _ _=>bi (isVoid ((hd m gs).get id)) (bi (isCells (m.get id)) (ob (aN x ls env m) fun v=>k cf b (v::ls) (d v env) m gs) none) (dcR (aN x) c d k cf b ls env m gs)
 | _=>dcR (aN x) c d k cf b ls env m gs
noncomputable def abQ (c:Nat)(o:ROp)(d:Option Nat)(g:Option (Opd×Bool))(k:DC):DC:=match o,g with
 | .bytesStr y,none=>abP (trO y) c (trD d) k
 | o,g=>dcR (Dk g (trR o)) c (trD d) k
noncomputable def Uv (m:Mem)(i:Nat)(b:Option Blk):Mem:=Option.rec m (fun b=>m.set i b) b
noncomputable def dcL (f:LF)(c:Nat)(d:j6→T j6→T j6)(k:DC):DC:=fun cf b ls env m gs=>ob (f ls env (Nat.add b c)) fun r=>
 bi (isVoid (m.get (Nat.add b c))) (bi (kU (Nat.add b c) gs) (k cf b (r.1::ls) (d r.1 env) (Uv m (Nat.add b c) r.2) gs) none) none
abbrev GF:=List j6→T j6→Bool
noncomputable def JR:GF:=fun _ _=>true
noncomputable def ghF:GF:=fun _ _=>false
noncomputable def ghD (k:GF):GF:=fun ls env=>k (.undef::ls) env
noncomputable def ghP (f:PF)(k:GF):GF:=fun ls env=>Option.rec false (fun v=>k (v::ls) env) (f ls env)
def NI (ds:List Bool):Opd→Bool
 | .loc k=>ds.getD k false
 | _=>false
def zK (ds:List Bool)(i:Inst):Bool:=(FM i.op).any (NI ds)||(match i.guard with
 | some p=>NI ds p.1
 | none=>false)
noncomputable def Dl:List (Nat×Inst)→List Bool→GF
 | [],_=>JR
 | x::l,ds=>match x.2.dst with
  | some _=>ghF
  | none=>match x.2.op with
   | .e _=>ghD (Dl l (true::ds))
   | .a _=>ghF
   | .r _=>bif zK ds x.2 then ghD (Dl l (true::ds)) else ghF
   | .p o=>bif zK ds x.2 then ghD (Dl l (true::ds)) else ghP (FE x.2.guard (trP o)) (Dl l (false::ds))
def LZ:List (Nat×Inst)→List Bool→Bool
 | [],_=>true
 | x::l,ds=>match x.2.dst with
  | some _=>false
  | none=>match x.2.op with
   | .e _=>LZ l (true::ds)
   | .a _=>false
   | .r _=>bif zK ds x.2 then LZ l (true::ds) else false
   | .p _=>LZ l (zK ds x.2::ds)
noncomputable def aaC (o:AOp)(l:List (Nat×Inst)):GF:=match o with
 | .e (.call _ _)=>bif LZ l [true] then Dl l [true] else ghF
 | .e (.callv _ _)=>bif LZ l [true] then Dl l [true] else ghF
 | .e (.panic _)=>bif LZ l [true] then Dl l [true] else ghF
 | _=>ghF
noncomputable def dcE (f:EF)(gh:GF)(d:j6→T j6→T j6)(k:DC):DC:=fun cf b ls env m gs=>NH (f cf ls env m) fun r=>
 jq r.v (fun x=>bi (gh (.undef::ls) (d .undef env)) (some [⟨env,r.m,some x,[]⟩]) none) (k cf b (r.v::ls) (d r.v env) r.m (r.m::gs))
noncomputable def abR (c:Nat)(o:AOp)(d:Option Nat)(g:Option (Opd×Bool))(gh:GF)(k:DC):DC:=match o with
 | .p o=>dcP (FE g (trP o)) (trD d) k
 | .r o=>abQ c o d g k
 | .a o=>dcL (NG g (trL o)) c (trD d) k
 | .e o=>dcE (JQ g (trE o)) gh (trD d) k
noncomputable def vQ:List (Nat×Inst)→DC
 | []=>U8
 | (c,i)::l=>abR c i.op i.dst i.guard (aaC i.op l) (vQ l)
noncomputable def reserve (n:Nat)(m:Mem):Mem:=Nat.rec (fun m=>m) (fun _ ih m=>ih (m.new .void)) n m
structure Out where
 x:aX
 env:T j6
 m:Mem
 marks:List Mk
 pv:Option j6
abbrev SC:=M6→Nat→Option Nat→T j6→Mem→List Mk→Option (List Out)
noncomputable def vv (x:aX)(env:T j6)(m:Mem)(k:List Mk):Option (List Out):=some [⟨x,env,m,k,none⟩]
noncomputable def G7:SC:=fun _ _ _ env m k=>vv .normal env m k
noncomputable def jr (k:List Mk)(e:EM):Option (List Out):=
 Option.rec (vv .normal e.env e.m (jc e.mks k)) (fun x=>some [⟨.ret,e.env,e.m,jc e.mks k,some x⟩]) e.px
noncomputable def l5 (r:RC):SC:=fun cf _ _ env m k=>bnd (r cf [] env m) (jr k)
noncomputable def zL (r:RC):SC:=fun cf _ ir env m k=>Option.rec (bnd (r cf [] env m) (jr k)) (fun _=>none) ir
def gV:List Inst→Bool
 | []=>false
 | i::l=>(oo i).isSome||gV l
noncomputable def M0 (n:Nat)(r:DC):SC:=fun cf _ _ env m k=>bnd (r cf m.next [] env (reserve n m) [reserve n m]) (jr k)
noncomputable def d9 (a b:SC):SC:=fun cf fuel ir env m k=>bnd (a cf fuel ir env m k) fun o=>aX.rec (b cf fuel ir o.env o.m o.marks) (fun _=>some [o]) (some [o]) o.x
noncomputable def D7 (c:OF)(a b:SC):SC:=fun cf fuel ir env m k=>nI (c [] env) fun t=>bi t (a cf fuel ir env m k) (b cf fuel ir env m k)
noncomputable def C9 (id:Nat)(a:SC):SC:=fun cf fuel ir env m k=>bnd (a cf fuel ir env m k) fun o=>
 aX.rec (some [o]) (fun id'=>bi (Nat.beq id id') (vv .normal o.env o.m o.marks) (some [o])) (some [o]) o.x
noncomputable def gu (body:T j6→Mem→List Mk→Option (List Out))(n:Nat):T j6→Mem→List Mk→Option (List Out):=
 Nat.rec (fun _ _ _=>none) (fun _ ih env m k=>bnd (body env m k) fun o=>aX.rec (ih o.env o.m o.marks) (fun _=>some [o]) (some [o]) o.x) n
noncomputable def J7 (a:SC):SC:=fun cf fuel ir env m k=>gu (fun env m k=>a cf fuel ir env m k) fuel env m k
noncomputable def jv (id:Nat):SC:=fun _ _ _ env m k=>vv (.exit id) env m k
noncomputable def H7:SC:=fun _ _ _ env m k=>vv .ret env m k
noncomputable def ou (b:Option Blk)(f:LoopState→Option aX→T j6→List (Option Nat)→aG→aG→Option β):Option β:=match b with
 | some (.loop st pend env params assign body)=>f st pend env params assign body
 | _=>none
noncomputable def NJ (cf:M6)(m:Mem)(args:List j6)(v:j6):tu:=LH v fun fn a b=>match fn with
 | .func f=>cf (.func f) (jc a (jc args b)) m
 | _=>none
noncomputable def NK (cf:M6)(f:j6)(params:List (Option Nat))(assign body:aG)(env:T j6)(m:Mem)(k:List Mk):Option (List Out):=
 bnd (NJ cf (m.new (.loop .ready none env params assign body)) [.func (.yield m.next) [] []] f) fun r=>jq r.v (fun _=>none) <|
  ou (r.m.get m.next) fun st pend _ _ _ _=>match st with
   | .busy=>none
   | _=>match pend with
    | none=>vv .normal env (r.m.set m.next .dead) k
    | some x=>vv x env (r.m.set m.next .dead) k
noncomputable def BJ (f:OF)(params:List (Option Nat))(assign body:aG):SC:=fun cf _ ir env m k=>
 Option.rec (NK cf (f [] env) params assign body env (m.new .deferred) (.c m.next::k))
  (fun l=>ou (m.get l) fun _ _ _ _ _ _=>NK cf (f [] env) params assign body env m k) ir
noncomputable def trC:aG→SC
 | .skip=>G7
 | .reg ops=>bif gV ops then zL (fU ops) else l5 (fU (kJ [] ops))
 | .dreg n ops=>M0 n (vQ ops)
 | .seq a b=>d9 (trC a) (trC b)
 | .cond c a b=>D7 (trO c) (trC a) (trC b)
 | .block id a=>C9 id (trC a)
 | .loop a=>J7 (trC a)
 | .exit id=>jv id
 | .ret=>H7
 | .rangeFunc f params assign body=>BJ (trO f) params assign body
noncomputable def bA (js:List (Option Nat)):List j6→T j6→Option (T j6):=
 List.rec (fun vs env=>List.rec (some env) (fun _ _ _=>none) vs) (fun j _ ih vs env=>List.rec none (fun v vs _=>ih vs (trD j v env)) vs) js
noncomputable def results (rs:List sZ)(env:T j6)(m:Mem):Option (List j6):=
 List.rec (some []) (fun r _ ih=>ob (match r with
  | .tmp j=>T.get env j
  | .cell j size=>ob (T.get env j) fun p=>pY p fun id off=>aK (m.get id) fun rs n rows=>match size with
   | none=>cell1 rs n rows off
   | some k=>ob (kT rs n rows off k) fun l=>some (.agg l)) fun v=>ob ih fun l=>some (v::l)) rs
noncomputable def result (l:List j6):j6:=List.rec (.tuple l) (fun v t _=>List.rec v (fun _ _ _=>.tuple l) t) l
noncomputable def Uw (b:Option Blk)(k:Option β):Option β:=match b with
 | some .deferred=>k
 | _=>none
abbrev iL:=FuncId→List j6→Option j6→Mem→Option (List (Mem×Option j6))
noncomputable def Ma (dcf:iL)(v:j6)(args:List j6)(md:Option j6)(m:Mem):Option (List (Mem×Option j6)):=LH v fun fn a b=>match fn with
 | .func f=>dcf f (jc a (jc args b)) md m
 | _=>none
noncomputable def zM (dcf:iL)(fin:Option j6→Mem→tu):List Mk→Option j6→Mem→tu:=
 List.rec (fun md m=>fin md m) (fun x _ ih md m=>match x with
  | .c id=>Uw (m.get id) (ih md (m.set id .dead))
  | .d v args=>bnd (Ma dcf v args md m) fun r=>ih r.2 r.1)
noncomputable def tH (rs:List sZ)(env:T j6)(md:Option j6)(m:Mem):tu:=
 Option.rec (ob (results rs env m) fun l=>one (result l) m) (fun x=>one (.pan x) m) md
noncomputable def leave (dcf:iL)(rs:List sZ)(o:Out):tu:=aX.rec (zM dcf (tH rs o.env) o.marks none o.m) (fun _=>none) (zM dcf (tH rs o.env) o.marks o.pv o.m) o.x
noncomputable def roundEnd (l:Nat)(o:Out):tu:=match o.marks,o.pv with
 | _ :: _,_=>none
 | _,some _=>none
 | [],none=>ou (o.m.get l) fun st pend env params assign body=>match st,pend with
  | .busy,none=>match o.x with
   | .normal=>one (.bool true) (o.m.set l (.loop .ready none env params assign body))
   | x=>one (.bool false) (o.m.set l (.loop .done (some x) env params assign body))
  | _,_=>none
mutual
noncomputable def JE (lo:Nat):j6→List Nat
 | .ptr i _ | .slice i _ _ _ | .sliceU i _ _ _ | .map i=>bi (Nat.ble lo i) [i] []
 | .func _ a b=>zy lo a++zy lo b
 | .iface _ v=>JE lo v
 | .agg l=>zy lo l
 | .tuple l=>zy lo l
 | _=>[]
noncomputable def zy (lo:Nat):List j6→List Nat
 | []=>[]
 | v::l=>JE lo v++zy lo l
end
inductive NB where
 | cells (rs:Nat) (rows:List (List j6))
 | map (es:List (j6×j6))
 | tail (p:Nat)
 | dead
 deriving Inhabited
noncomputable def BK (b:Blk):Option NB:=match b with
 | .cells rs n rows=>ob (rows.slice n 0) fun l=>some (.cells rs l)
 | .map es=>some (.map es)
 | .tail p=>some (.tail p)
 | .dead=>some .dead
 | _=>none
noncomputable def Gc (lo:Nat):List (List j6)→List Nat
 | []=>[]
 | l::ls=>zy lo l++Gc lo ls
noncomputable def Ux (lo:Nat):List (j6×j6)→List Nat
 | []=>[]
 | e::es=>JE lo e.1++(JE lo e.2++Ux lo es)
noncomputable def Mc (lo:Nat):NB→List Nat
 | .cells _ rows=>Gc lo rows
 | .map es=>Ux lo es
 | .tail p=>bi (Nat.ble lo p) [p] []
 | .dead=>[]
noncomputable def Ep (n:Nat)(l:List (Nat×NB)):Bool:=List.rec false (fun x _ ih=>bi (Nat.beq x.1 n) true ih) l
noncomputable def reach (m:Mem)(lo n:Nat):List Nat→List (Nat×NB)→Option (List (Nat×NB)):=
 Nat.rec (fun _ _=>none) (fun _ ih work seen=>List.rec (some seen.reverse) (fun w ws _=>
  bi (Ep w seen) (ih ws seen) (ob (m.get w) fun b=>ob (BK b) fun nb=>ih (Mc lo nb++ws) ((w,nb)::seen))) work) n
noncomputable def placeOf (i:Nat)(l:List Nat):Nat→Option Nat:=List.rec (fun _=>none) (fun x _ ih k=>bi (Nat.beq x i) (some k) (ih (Nat.succ k))) l
mutual
noncomputable def jw (r:Nat→Option Nat):j6→Option j6
 | .ptr i o=>ob (r i) fun j=>some (.ptr j o)
 | .slice i o l c=>ob (r i) fun j=>some (.slice j o l c)
 | .sliceU i o l c=>ob (r i) fun j=>some (.sliceU j o l c)
 | .map i=>ob (r i) fun j=>some (.map j)
 | .func fn a b=>match fn with
  | .yield _=>none
  | fn=>ob (qU r a) fun x=>ob (qU r b) fun y=>some (.func fn x y)
 | .iface t v=>ob (jw r v) fun x=>some (.iface t x)
 | .agg l=>ob (qU r l) fun x=>some (.agg x)
 | .tuple l=>ob (qU r l) fun x=>some (.tuple x)
 | .pan _=>none
 | v=>some v
noncomputable def qU (r:Nat→Option Nat):List j6→Option (List j6)
 | []=>some []
 | v::l=>ob (jw r v) fun x=>ob (qU r l) fun y=>some (x::y)
end
noncomputable def mV (r:Nat→Option Nat):List (List j6)→Option (List (List j6))
 | []=>some []
 | l::ls=>ob (qU r l) fun x=>ob (mV r ls) fun y=>some (x::y)
noncomputable def FH (r:Nat→Option Nat):List (j6×j6)→Option (List (j6×j6))
 | []=>some []
 | e::es=>ob (jw r e.1) fun x=>ob (jw r e.2) fun y=>ob (FH r es) fun z=>some ((x,y)::z)
noncomputable def vk (r:Nat→Option Nat):NB→Option NB
 | .cells rs rows=>ob (mV r rows) fun x=>some (.cells rs x)
 | .map es=>ob (FH r es) fun x=>some (.map x)
 | .tail p=>ob (r p) fun q=>some (.tail q)
 | .dead=>some .dead
noncomputable def sw (r:Nat→Option Nat):List NB→Option (List NB)
 | []=>some []
 | p::l=>ob (vk r p) fun x=>ob (sw r l) fun y=>some (x::y)
structure CO where
 ids:List Nat
 vs:List j6
 bs:List NB
noncomputable def BD (lo:Nat)(ids:List Nat)(i:Nat):Option Nat:=bi (Nat.ble lo i) (placeOf i ids lo) (some i)
noncomputable def eF (lo:Nat)(vs:List j6)(m:Mem):Option CO:=
 ob (reach m lo 100000 (zy lo vs) []) fun seen=>
  ob (qU (BD lo (seen.map (·.1))) vs) fun xs=>ob (sw (BD lo (seen.map (·.1))) (seen.map (·.2))) fun bs=>some ⟨seen.map (·.1),xs,bs⟩
noncomputable def cB:NB→Blk
 | .cells rs rows=>.cells rs (len' rows) (T.ofList rows)
 | .map es=>.map es
 | .tail p=>.tail p
 | .dead=>.dead
noncomputable def layAll (bs:List NB):Mem→Mem:=List.rec (fun m=>m) (fun b _ ih m=>ih (m.new (cB b))) bs
noncomputable def vR:List (List j6)→List (List j6)→Bool
 | [],[]=>true
 | a::x,b::y=>bi (wY (cu 100) a b) (vR x y) false
 | _,_=>false
noncomputable def Er:List (j6×j6)→List (j6×j6)→Bool
 | [],[]=>true
 | a::x,b::y=>bi (cu 100 a.1 b.1) (bi (cu 100 a.2 b.2) (Er x y) false) false
 | _,_=>false
noncomputable def aC:NB→NB→Bool
 | .cells r a,.cells s b=>bi (Nat.beq r s) (vR a b) false
 | .map a,.map b=>Er a b
 | .tail p,.tail q=>Nat.beq p q
 | .dead,.dead=>true
 | _,_=>false
noncomputable def jy:List NB→List NB→Bool
 | [],[]=>true
 | a::x,b::y=>bi (aC a b) (jy x y) false
 | _,_=>false
structure Ans where
 v:j6
 bs:List NB
noncomputable def zN (lo:Nat)(r:VM):Option Ans:=ob (eF lo [r.v] r.m) fun c=>List.rec none (fun v _ _=>some ⟨v,c.bs⟩) c.vs
noncomputable def Dm (lo:Nat)(l:List VM):Option Ans:=
 List.rec none (fun r rs ih=>ob (zN lo r) fun a=>List.rec (some a) (fun _ _ _=>ob ih fun b=>bi (cu 100 a.v b.v) (bi (jy a.bs b.bs) (some a) none) none) rs) l
structure SFn where
 pure:Bool
 args:List (Option Nat)
 nslots:Nat
 results:List sZ
 code:SC
 rcode:Option aG
structure Known where
 fns:FuncId→Option SFn
 base:Mem
 sum:FuncId→List j6→List NB→Option Ans
noncomputable def G5 (cf:M6)(dcf:iL)(fuel:Nat)(f:SFn)(args:List j6)(m:Mem):tu:=
 ob (bA f.args args (T.rep .undef f.nslots .e 0)) fun env=>bnd (f.code cf fuel none env m []) (leave dcf f.results)
structure NM where
 o:Out
 md:Option j6
def isRec (i:Inst):Bool:=match i.op,i.guard with
 | .e .recover,none=>true
 | _,_=>false
def zO:List Inst→Bool
 | []=>false
 | i::l=>isRec i||zO l
noncomputable def zP:List Inst→M6→List j6→T j6→Mem→Option j6→Option (List (EM×Option j6))
 | [],_,_,env,m,md=>some [(⟨env,m,none,[]⟩,md)]
 | i::l,cf,ls,env,m,md=>match isRec i with
  | true=>match md with
   | some x=>zP l cf (x::ls) (trD i.dst x env) m none
   | none=>zP l cf (.nilIface::ls) (trD i.dst .nilIface env) m none
  | false=>match i.op with
   | .p o=>ob (FE i.guard (trP o) ls env) fun v=>zP l cf (v::ls) (trD i.dst v env) m md
   | .r o=>ob (Dk i.guard (trR o) ls env m) fun v=>zP l cf (v::ls) (trD i.dst v env) m md
   | _=>none
noncomputable def dEv:aG→M6→Nat→T j6→Mem→Option j6→Option (List NM)
 | .seq a b,cf,fuel,env,m,md=>bnd (dEv a cf fuel env m md) fun r=>match r.o.x with
  | .normal=>match r.o.marks with
   | []=>dEv b cf fuel r.o.env r.o.m r.md
   | _=>none
  | _=>some [r]
 | .cond c a b,cf,fuel,env,m,md=>nI (trO c [] env) fun t=>bi t (dEv a cf fuel env m md) (dEv b cf fuel env m md)
 | .reg ops,cf,fuel,env,m,md=>match zO ops with
  | true=>bnd (zP ops cf [] env m md) fun r=>some [⟨⟨.normal,r.1.env,r.1.m,[],none⟩,r.2⟩]
  | false=>bnd (trC (.reg ops) cf fuel none env m []) fun o=>some [⟨o,md⟩]
 | c,cf,fuel,env,m,md=>bnd (trC c cf fuel none env m []) fun o=>some [⟨o,md⟩]
noncomputable def Gd (rs:List sZ)(r:NM):Option (List (Mem×Option j6)):=match r.o.x,r.o.marks,r.o.pv with
 | .exit _,_,_=>none
 | _,[],none=>ob (results rs r.o.env r.o.m) fun _=>some [(r.o.m,r.md)]
 | _,_,_=>none
noncomputable def aaD (cf:M6)(fuel:Nat)(f:SFn)(args:List j6)(md:Option j6)(m:Mem):Option (List (Mem×Option j6)):=
 ob f.rcode fun c=>ob (bA f.args args (T.rep .undef f.nslots .e 0)) fun env=>bnd (dEv c cf fuel env m md) (Gd f.results)
noncomputable def Mem.shut (m:Mem):Mem:=⟨m.t,m.next,m.next⟩
noncomputable def zQ (K:Known)(cf:M6)(fuel:Nat):iL:=fun f args md m=>ob (K.fns f) fun sf=>aaD cf fuel sf args md m
noncomputable def zS (K:Known)(cf:M6)(fuel:Nat)(f:FuncId)(sf:SFn)(args:List j6)(bs:List NB):Option Ans:=
 Option.rec (ob (G5 cf (zQ K cf fuel) fuel sf args (layAll bs K.base).shut) fun l=>Dm (layAll bs K.base).next l) (fun a=>some a) (K.sum f args bs)
noncomputable def dD (g:Nat)(ids:List Nat)(next i:Nat):Option Nat:=
 bi (Nat.blt i g) (some i) (bi (Nat.blt (Nat.sub i g) (len' ids)) (zw (Nat.sub i g) ids) (some (Nat.add next (Nat.sub (Nat.sub i g) (len' ids)))))
noncomputable def ow (K:Known)(cf:M6)(fuel:Nat)(f:FuncId)(sf:SFn)(args:List j6)(m:Mem):tu:=
 ob (eF K.base.next args m) fun c=>ob (zS K cf fuel f sf c.vs c.bs) fun a=>
  ob (jw (dD K.base.next c.ids m.next) a.v) fun v=>ob (sw (dD K.base.next c.ids m.next) a.bs) fun bs=>one v (layAll bs m)
noncomputable def BL (cf:M6)(fuel l:Nat)(args:List j6)(m:Mem):tu:=
 bi (Nat.blt l m.lim) none (ou (m.get l) fun st pend env params assign body=>match st,pend with
  | .ready,none=>ob (bA params args env) fun env1=>bnd (trC assign cf fuel (some l) env1 m []) fun o=>match o.x,o.marks with
   | .normal,[]=>ou (o.m.get l) fun st2 pend2 env2 params2 assign2 body2=>match st2,pend2 with
    | .ready,none=>bnd (trC body cf fuel (some l) o.env (o.m.set l (.loop .busy none env2 params2 assign2 body2)) []) (roundEnd l)
    | _,_=>none
   | _,_=>none
  | _,_=>none)
noncomputable def G9 (K:Known)(fuel n:Nat):M6:=
 Nat.rec (fun _ _ _=>none) (fun _ ih fn args m=>match fn with
  | .func f=>ob (K.fns f) fun sf=>bi sf.pure (ow K ih fuel f sf args m) (G5 ih (zQ K ih fuel) fuel sf args m)
  | .yield l=>BL ih fuel l args m
  | _=>none) n
end Go.AM
namespace Go.AM
open Go
mutual
def ofValue:Value→Option j6
 | .bool b=>some (.bool b)
 | .int k n=>some (.int k n)
 | .string s=>some (.str s.data.toList)
 | .pointer none=>some .nilPtr
 | .slice none 0 0=>some .nilSlice
 | .map none=>some .nilMap
 | .func (.func f) ⟨[]⟩ ⟨[]⟩=>some (.func (.func f) [] [])
 | .nilFunc=>some .nilFunc
 | .nilIface=>some .nilIface
 | .agg ⟨l⟩=>match ofValues l with
  | some x=>some (.agg x)
  | none=>none
 | .tuple ⟨[]⟩=>some (.tuple [])
 | _=>none
def ofValues:List Value→Option (List j6)
 | []=>some []
 | v::l=>match ofValue v,ofValues l with
  | some x,some y=>some (x::y)
  | _,_=>none
end
section
variable (P:Program)
def iH (t:TypeId):Option Nat:=(P.info? t).map (·.size)
def fA (t:TypeId):Option Nat:=(P.info? t).map (·.bytes)
def BF (t:TypeId):Option Bool:=match P.underlying t with
 | some (.struct _) | some (.array _ _)=>some true
 | some _=>some false
 | none=>none
def partT (t:TypeId):Option (Option Nat):=match BF P t,iH P t with
 | some true,some n=>some (some n)
 | some false,some _=>some none
 | _,_=>none
def qg (t:TypeId):Option (List j6):=match (P.info? t).bind (·.zero) with
 | some z=>match ofValue z with
  | some a=>some a.cells
  | none=>none
 | none=>none
def zeroV (t:TypeId):Option j6:=match (P.info? t).bind (·.zero) with
 | some z=>ofValue z
 | none=>none
def kV (f:TypeId→Option (List PK)):List Field→Nat→Option (List PK)
 | [],_=>some []
 | fd::l,off=>if fd.name≠ "_"∧fd.offset=off then match f fd.type with
   | some ks=>match kV f l (off+ks.length) with
    | some r=>some (ks++r)
    | none=>none
   | none=>none
  else none
def dQ:Nat→TypeId→Option (List PK)
 | 0,_=>none
 | d+1,t=>match P.underlying t with
  | some .bool=>if iH P t=some 1 then some [.b] else none
  | some (.int _)=>if iH P t=some 1 then some [.i] else none
  | some .string=>if iH P t=some 1 then some [.s] else none
  | some (.struct fs)=>match kV (dQ d) fs.toList 0 with
   | some ks=>if P.stoodInHeld t=false∧iH P t=some ks.length then some ks else none
   | none=>none
  | _=>none
def eqT (cst:Bool)(t:TypeId):Option EqK:=match P.underlying t with
 | some .bool=>some (.prim .b)
 | some (.int _)=>some (.prim .i)
 | some .string=>some (.prim .s)
 | some (.struct _)=>match dQ P 10 t with
  | some k=>if P.eqGuardType P.depth t=false then some (.flat k) else none
  | none=>none
 | some (.pointer _)=>some .ptr
 | some (.slice _)=>some .slice
 | some (.map _ _)=>some .map
 | some (.func ..)=>some .func
 | some (.interface _)=>if cst then some .iface else none
 | _=>none
def aaE (t:TypeId):Option EqK:=match P.underlying t with
 | some (.array n e)=>match P.underlying e with
  | some (.int _)=>if iH P e=some 1∧P.eqGuardType P.depth t=false then some (.flat (List.replicate n .i)) else none
  | _=>none
 | _=>none
def Uy (cst:Bool)(t:TypeId):Option EqK:=match eqT P cst t with
 | some k=>some k
 | none=>aaE P t
def Md (t:TypeId):Option (List j6):=match qg P t,iH P t with
 | some z,some k=>if z.length=k then some z else none
 | _,_=>none
def Dn (t:TypeId):Option EqK:=match eqT P false t with
 | some (.prim j)=>some (.prim j)
 | some (.flat ks)=>some (.flat ks)
 | _=>none
end
def idxOf (t:Nat):List Nat→Nat→Option Nat
 | [],_=>none
 | x::l,i=>bif Nat.beq x t then some i else idxOf t l (i+1)
def gW (t:Nat):List (Option Nat)→Nat→Option Nat
 | [],_=>none
 | some x::l,i=>bif Nat.beq x t then some i else gW t l (i+1)
 | none::l,i=>gW t l (i+1)
section
variable (P:Program)(slots:List Nat)(done:List (Option Nat))
def aO:Operand→Option Opd
 | .tmp t=>match gW t done 0 with
  | some k=>some (.loc k)
  | none=>match idxOf t slots 0 with
   | some j=>some (.slot j)
   | none=>none
 | .const v=>match ofValue v with
  | some a=>some (.con a)
  | none=>none
 | .global g=>if g<P.globals.size then some (.con (.ptr g 0)) else none
 | .func f=>some (.con (.func (.func f) [] []))
def jA:List Operand→Option (List Opd)
 | []=>some []
 | x::l=>match aO P slots done x,jA l with
  | some a,some b=>some (a::b)
  | _,_=>none
def cOpt:Option Operand→Option (Option Opd)
 | none=>some none
 | some x=>match aO P slots done x with
  | some a=>some (some a)
  | none=>none
def vw:Operand→Bool
 | .const _=>true
 | _=>false
def qV (place:Nat→Option (Nat×Nat)):List (Nat×Operand)→Option (List (Nat×Nat×Opd))
 | []=>some []
 | p::l=>match place p.1,aO P slots done p.2,qV place l with
  | some (o,s),some x,some r=>some ((o,s,x)::r)
  | _,_,_=>none
def placesOf:List Field→Option (List (Nat×Nat))
 | []=>some []
 | f::l=>match iH P f.type,placesOf l with
  | some s,some r=>some ((f.offset,s)::r)
  | _,_=>none
def tJ (t:TypeId)(parts:List (Nat×Operand)):Option AOp:=
 match qg P t,P.underlying t with
 | some zero,some (.struct fields)=>match placesOf P fields.toList with
  | some pl=>match qV P slots done (fun i=>pl[i]?) parts with
   | some ps=>some (.p (.build zero ps))
   | none=>none
  | none=>none
 | some zero,some (.array _ elem)=>match iH P elem with
  | some s=>match qV P slots done (fun i=>some (i*s,s)) parts with
   | some ps=>some (.p (.build zero ps))
   | none=>none
  | none=>none
 | _,_=>none
def oz (b:Builtin)(ts:List TypeId)(args:List Operand):Option AOp:=do
 match b,ts,args with
 | .len,[t],[x]=>match ← P.underlying t with
  | .string=>do pure (.p (.lenS (← aO P slots done x)))
  | .slice _=>do pure (.p (.len (← aO P slots done x)))
  | .array n _=>pure (.p (.mov (.con (.int .i64 n))))
  | .map _ _=>do pure (.r (.lenM (← aO P slots done x)))
  | _=>none
 | .cap,[t],[x]=>match ← P.underlying t with
  | .slice _=>do pure (.p (.cap (← aO P slots done x)))
  | _=>none
 | .append,[t,u],[s,x]=>match ← P.underlying t with
  | .slice e=>do
   let d ← P.underlying u
   let zs:=match d with | .int _=>true | _=>false
   pure (.e (.app (← iH P e) zs (← Md P e) (← fA P e) (← aO P slots done s) (← aO P slots done x)))
  | _=>none
 | .copy,[t,_],[d,s]=>match ← P.underlying t with
  | .slice e=>do pure (.e (.copy (← iH P e) (← aO P slots done d) (← aO P slots done s)))
  | _=>none
 | .clear,[t],[x]=>match ← P.underlying t with
  | .slice e=>do pure (.e (.clear (← qg P e) (← aO P slots done x)))
  | _=>none
 | .max,_,x::xs=>do pure (.p (.mm true (← aO P slots done x) (← jA P slots done xs)))
 | .min,_,x::xs=>do pure (.p (.mm false (← aO P slots done x) (← jA P slots done xs)))
 | .recover,[],[]=>pure (.e .recover)
 | _,_,_=>none
def cOp (o:Op):Option AOp:=do
 let r:=aO P slots done
 match o with
 | .move x | .assign x=>pure (.p (.mov (← r x)))
 | .pick c a b=>pure (.p (.pick (← r c) (← r a) (← r b)))
 | .alloc t=>pure (.a (.alloc (← qg P t)))
 | .box _ x=>pure (.a (.box (← r x)))
 | .build t parts=>tJ P slots done t parts.toList
 | .buildSlice t len parts=>match ← P.underlying t with
  | .slice e=>do
   let es ← iH P e
   let ps ← qV P slots done (fun i=>some (i*es,es)) parts.toList
   if len*es≤16777216 then pure (.a (.buildSlice es len (← qg P e) ps)) else none
  | _=>none
 | .load t a=>pure (.r (.load (← partT P t) (← r a)))
 | .store t a x=>pure (.e (.store (← iH P t) (← r a) (← r x)))
 | .nilCheck x=>pure (.p (.nilCheck (← r x)))
 | .binOp op t x y _=>match op with
  | .eql | .neq=>do
   let k ← Uy P (vw x||vw y) t
   let neg:=match op with | .neq=>true | _=>false
   match k with
   | .prim .i=>pure (.p (.ib op (← r x) (← r y)))
   | .prim .s=>pure (.p (.ib op (← r x) (← r y)))
   | k=>pure (.p (.eq neg k (← r x) (← r y)))
  | _=>pure (.p (.ib op (← r x) (← r y)))
 | .unOp op _ x=>match op with
  | .not=>do pure (.p (.not (← r x)))
  | .neg=>do pure (.p (.neg (← r x)))
  | _=>none
 | .convert s d x=>match ← P.underlying s,← P.underlying d with
  | .int _,.int k=>do pure (.p (.conv k (← r x)))
  | .string,.slice e=>match ← P.underlying e with
   | .int .u8=>do pure (.a (.strBytes (← r x)))
   | _=>none
  | .slice e,.string=>match ← P.underlying e with
   | .int .u8=>do pure (.r (.bytesStr (← r x)))
   | _=>none
  | _,_=>none
 | .makeInterface t x=>match ← P.underlying t with
  | .interface _=>none
  | _=>do pure (.p (.mkIface t (← r x)))
 | .makeFunc fn a b=>match fn with
  | .func f=>do pure (.p (.mkFunc (.func f) (← jA P slots done a.toList) (← jA P slots done b.toList)))
  | _=>none
 | .makeMap t res=>match res with
  | none=>pure (.a .mkMap)
  | some (.const (.int _ _))=>match P.underlying t with
   | some (.map _ _)=>pure (.a .mkMap)
   | _=>none
  | _=>none
 | .makeSlice t l c=>match ← P.underlying t with
  | .slice e=>do pure (.a (.mkSlice (← iH P e) (← fA P e) (← Md P e) (← r l) (← r c)))
  | _=>none
 | .slice t x lo hi none=>match ← P.underlying t with
  | .string=>do pure (.p (.slStr (← r x) (← cOpt P slots done lo) (← cOpt P slots done hi)))
  | .slice e=>do pure (.a (.sl (← iH P e) (← r x) (← cOpt P slots done lo) (← cOpt P slots done hi)))
  | .array n e=>do pure (.p (.slArr (← iH P e) n (← r x) (← cOpt P slots done lo) (← cOpt P slots done hi)))
  | _=>none
 | .fieldAddr s x f=>match ← P.underlying s with
  | .struct fs=>do
   let fd ← fs[f]?
   let sz ← iH P fd.type
   if sz=0 then none else pure (.p (.fAddr fd.offset (← r x)))
  | _=>none
 | .field s x f=>match ← P.underlying s with
  | .struct fs=>do
   let fd ← fs[f]?
   pure (.p (.fld fd.offset (← partT P fd.type) (← r x)))
  | _=>none
 | .indexAddr t x i=>match ← P.underlying t with
  | .slice e=>do pure (.p (.iAddr (← iH P e) (← r x) (← r i)))
  | .array n e=>do pure (.p (.iAddrArr (← iH P e) n (← r x) (← r i)))
  | _=>none
 | .index t x i=>match ← P.underlying t with
  | .string=>do pure (.p (.iStr (← r x) (← r i)))
  | .array n e=>do pure (.p (.iArr (← iH P e) n (← partT P e) (← r x) (← r i)))
  | _=>none
 | .lookup t x k ok=>match ← P.underlying t with
  | .map kt e=>do pure (.r (.look (← Dn P kt) (← zeroV P e) ok (← r x) (← r k)))
  | _=>none
 | .mapUpdate t m k x | .insert t m k x=>match ← P.underlying t with
  | .map kt _=>do pure (.e (.mapSet (← Dn P kt) (← r m) (← r k) (← r x)))
  | _=>none
 | .range t x=>match ← P.underlying t with
  | .map _ _=>do pure (.e (.range (← r x)))
  | _=>none
 | .next it false=>pure (.e (.next (← r it)))
 | .entry it=>pure (.r (.entry (← r it)))
 | .extract x i=>pure (.p (.ext (← r x) i))
 | .typeAssert x _ t ok=>match ← P.underlying t with
  | .interface _=>none
  | _=>do pure (.p (.assert t (← zeroV P t) ok (← r x)))
 | .panic x=>pure (.e (.panic (← r x)))
 | .defer c=>match c.callee with
  | .value f=>do pure (.e (.defer (← r f) (← jA P slots done c.args.toList)))
  | _=>none
 | .call c=>match c.callee with
  | .builtin b=>oz P slots done b c.argTypes.toList c.args.toList
  | .value (.func f)=>do
   let fn ← P.funcs[f]?
   if fn.body.isSome&&fn.name != "runtime.NumGoroutine" then pure (.e (.call f (← jA P slots done c.args.toList))) else none
  | .value f=>do pure (.e (.callv (← r f) (← jA P slots done c.args.toList)))
  | _=>none
 | _=>none
def Me:Option Tmp→Option Nat
 | none=>none
 | some t=>idxOf t slots 0
def tK (o:Op):AOp:=match cOp P slots done o with
 | some a=>a
 | none=>.e .bad
def Gf (ops:Array Oper)(i:Nat):Option (Inst×Option Nat):=do
 let o ← ops[i]?
 let a:=tK P slots done o.op
 let g ← match o.guard with
  | none=>pure none
  | some (j,w)=>do
   let og ← ops[j]?
   let d ← og.dst
   let k ← gW d done 0
   pure (some (Opd.loc k,w))
 pure (⟨a,Me slots o.dst,g⟩,o.dst)
end
def iM (P:Program)(slots:List Nat)(ops:Array Oper):List (Option Nat)→List Nat→Option (List Inst)
 | _,[]=>some []
 | done,i::rest=>match Gf P slots done ops i with
  | some (x,d)=>match iM P slots ops (d::done) rest with
   | some l=>some (x::l)
   | none=>none
  | none=>none
def bitsOf (e:Array Edge)(acc:List Nat):Nat:=
 e.toList.foldl (fun s x=>if Region.binds .any x then s ||| (1 <<< x.on) ||| (acc.getD x.on 0) else s) 0
def masks (ops:List Oper):List Nat:=ops.foldl (fun acc o=>acc ++ [bitsOf o.after acc]) []
def mOf (ms:List Nat)(i j:Nat):Bool:=Nat.testBit (ms.getD i 0) j
def abS:Op→Bool
 | .store .. | .mapUpdate .. | .insert .. | .range .. | .next .. | .mapEntry .. | .entryStore .. | .panic _ | .defer _ | .typeAssert ..=>true
 | .call {callee:=.builtin b,..}=>match b with
  | .append | .copy | .clear | .delete=>true
  | _=>false
 | .call _=>true
 | _=>false
def Es (ops:Array Oper)(i:Nat):Bool:=
 match ops[i]? with
 | some o=>abS o.op
 | none=>false
def canon (eff:Nat→Bool)(ms:List Nat)(n:Nat):List Nat:=
 let effs:=(List.range n).filter eff
 let step (acc:List Nat) (e:Nat):List Nat:=acc++(List.range n).filter (fun i=>!acc.contains i&&mOf ms e i) ++ [e]
 let acc:=effs.foldl (fun acc e=>if acc.contains e then acc else step acc e) []
 acc++(List.range n).filter (fun i=>!acc.contains i)
def isE (x:Inst):Bool:=match x.op with
 | .e _=>true
 | _=>false
def isA (x:Inst):Bool:=match x.op with
 | .a _=>true
 | _=>false
def isR (x:Inst):Bool:=match x.op with
 | .r _=>true
 | _=>false
def abT (ms:List Nat)(i:Nat)(x:Inst)(effs:List Nat)(nal:Nat):Nat:=
 if isR x then (effs.takeWhile fun e=>!mOf ms i e).length else nal
def numbered (ms:List Nat):List (Nat×Inst)→List Nat→Nat→List (Nat×Inst)
 | [],_,_=>[]
 | (i,x)::rest,effs,nal=>(abT ms i x effs nal,x)::numbered ms rest (if isE x then i::effs else effs) (if isA x then nal+1 else nal)
def tL (ops:Array Oper)(o:Oper):List Nat:=
 (o.op.operands.toList.filterMap fun | .tmp t=>some t | _=>none) ++
 (match o.guard with
  | some (g,_)=>((ops[g]?).bind (·.dst)).toList
  | none=>[])
def Gg:List Nat→Bool
 | []=>true
 | x::l=>!l.contains x&&Gg l
def BM:List Inst→Nat
 | []=>0
 | x::l=>(if isA x then 1 else 0)+BM l
def JU (ms:List Nat)(i:Nat)(before:List (Nat×Inst)):Opd→Bool
 | .loc k=>match before[k]? with
  | some y=>mOf ms i y.1
  | none=>false
 | .slot j=>before.all fun y=>y.2.dst != some j
 | .con _=>true
def qW (ms:List Nat)(ops:Array Oper)(i:Nat)(x:Inst)(before:List (Nat×Inst)):Bool:=
 (match x.op with
  | .e _=>before.all fun y=>mOf ms i y.1
  | _=>true) &&
 (match ops[i]? with
  | some o=>(o.after.toList.all fun e=>!Region.binds .any e||before.any fun y=>y.1==e.on) &&
   ((tL ops o).all fun t=>(List.range ops.size).all fun q=>q==i||(match ops[q]? with
    | some oq=>oq.dst != some t
    | none=>true)||mOf ms i q||mOf ms q i)
  | none=>false) &&
 ((FM x.op).all fun y=>JU ms i before y) &&
 (match x.guard with
  | some (y,_)=>JU ms i before y
  | none=>true)
def oC (ms:List Nat)(ops:Array Oper):List (Nat×Inst)→List (Nat×Inst)→Bool
 | [],_=>true
 | y::rest,before=>qW ms ops y.1 y.2 before&&oC ms ops rest (y::before)
def Mf (ms:List Nat)(ops:Array Oper)(ord:List Nat)(insts:List Inst):Bool:=
 Gg ord&&(ord.all fun i=>Nat.blt i ops.size)&&((List.range ops.size).all fun i=>ord.contains i)&&Gg (ops.toList.filterMap (·.dst))&&oC ms ops (ord.zip insts) []
def zT (P:Program)(slots:List Nat)(ops:Array Oper):Option aG:=
 match iM P slots ops [] (canon (Es ops) (masks ops.toList) ops.size) with
 | none=>none
 | some insts=>
  if Mf (masks ops.toList) ops (canon (Es ops) (masks ops.toList) ops.size) insts then
   some (.dreg (BM insts) (numbered (masks ops.toList) ((canon (Es ops) (masks ops.toList) ops.size).zip insts) [] 0))
  else none
def V7 (P:Program)(slots:List Nat):Code→Option aG
 | .skip=>some .skip
 | .region _ ops false=>match iM P slots ops [] (List.range ops.size) with
  | some l=>some (.reg l)
  | none=>none
 | .region _ ops true=>zT P slots ops
 | .seq a b=>match V7 P slots a,V7 P slots b with
  | some x,some y=>some (.seq x y)
  | _,_=>none
 | .cond c a b=>match aO P slots [] c,V7 P slots a,V7 P slots b with
  | some z,some x,some y=>some (.cond z x y)
  | _,_,_=>none
 | .block id a=>match V7 P slots a with
  | some x=>some (.block id x)
  | none=>none
 | .loop a=>match V7 P slots a with
  | some x=>some (.loop x)
  | none=>none
 | .exit id=>some (.exit id)
 | .ret=>some .ret
 | .rangeFunc f ps a b=>match aO P slots [] f,V7 P slots a,V7 P slots b with
  | some z,some x,some y=>some (.rangeFunc z (ps.toList.map fun t=>idxOf t slots 0) x y)
  | _,_,_=>none
 | _=>none
def tmpsIn (nt:Nat):Code→Bool
 | .region _ ops _=>ops.toList.all fun o=>match o.dst with
  | some t=>Nat.blt t nt
  | none=>true
 | .seq a b=>tmpsIn nt a&&tmpsIn nt b
 | .cond _ a b=>tmpsIn nt a&&tmpsIn nt b
 | .block _ a=>tmpsIn nt a
 | .loop a=>tmpsIn nt a
 | .rangeFunc _ _ a b=>tmpsIn nt a&&tmpsIn nt b
 | _=>true
def FI (P:Program)(slots:List Nat):List ResultVar→Option (List sZ)
 | []=>some []
 | .tmp t::l=>match idxOf t slots 0,FI P slots l with
  | some j,some r=>some (.tmp j::r)
  | _,_=>none
 | .cell t ty::l=>match idxOf t slots 0,partT P ty,FI P slots l with
  | some j,some s,some r=>some (.cell j s::r)
  | _,_,_=>none
def cFn (P:Program)(slots:List Nat)(f:FuncId):Option AFn:=
 match P.funcs[f]? with
 | none=>none
 | some fn=>match fn.body with
  | none=>none
  | some c=>match V7 P slots c,FI P slots fn.results.toList with
   | some b,some r=>
    if tmpsIn fn.ntmps c&&(slots.all fun t=>Nat.blt t fn.ntmps)&&Nat.blt slots.length 1152921504606846976&&fn.name != "runtime.NumGoroutine" then
     some ⟨fn.params.size+fn.nfree,(List.range (fn.params.size+fn.nfree)).map fun t=>idxOf t slots 0,slots.length,r,b⟩
    else none
   | _,_=>none
end Go.AM
namespace Go.AM
open Go
section
variable {α β γ:Type}
@[simp] theorem P5 (a:α)(k:α→Option β):ob (some a) k=k a:=rfl
@[simp] theorem abU (k:α→Option β):ob none k=none:=rfl
theorem J6 {o:Option α}{k:α→Option β}{b:β}(h:ob o k=some b):∃a,o=some a∧k a=some b:=by
 cases o with
 | none=>simp at h
 | some a=>exact⟨a,rfl,h⟩
@[simp] theorem bO (x y:α):bi true x y=x:=rfl
@[simp] theorem aY (x y:α):bi false x y=y:=rfl
theorem L8 {b:Bool}{x:Option α}{a:α}(h:bi b x none=some a):b=true∧x=some a:=by
 cases b with
 | true=>exact⟨rfl,h⟩
 | false=>simp at h
theorem tN {b:Bool}{x:Option α}{a:α}(h:bi b none x=some a):b=false∧x=some a:=by
 cases b with
 | true=>simp at h
 | false=>exact⟨rfl,h⟩
end
namespace T
variable {α:Type}
@[simp] theorem ap9 (i:Nat):(T.e:T α).get i=none:=rfl
@[simp] theorem aaF (l:T α)(x:α)(r:T α):(T.nd l x r).get 0=some x:=rfl
theorem bJ (l:T α)(x:α)(r:T α)(i:Nat):(T.nd l x r).get (i+1)=if i%2=0 then l.get (i / 2) else r.get (i / 2):=by
 show (Nat.rec (l.get (Nat.div i 2)) (fun _ _=>r.get (Nat.div i 2)) (Nat.mod i 2):Option α)=_
 have h:Nat.mod i 2=i%2:=rfl
 rcases Nat.mod_two_eq_zero_or_one i with h0 | h1
 ·rw [h,h0];rfl
 ·rw [h,h1];rfl
@[simp] theorem abV (i:Nat)(x:α):(T.e:T α).put i x=.nd .e x .e:=rfl
@[simp] theorem Dp (l:T α)(y:α)(r:T α)(x:α):(T.nd l y r).put 0 x=.nd l x r:=rfl
theorem U7 (l:T α)(y:α)(r:T α)(i:Nat)(x:α):(T.nd l y r).put (i+1) x=if i%2=0 then .nd (l.put (i / 2) x) y r else .nd l y (r.put (i / 2) x):=by
 show (Nat.rec (T.nd (l.put (Nat.div i 2) x) y r) (fun _ _=>T.nd l y (r.put (Nat.div i 2) x)) (Nat.mod i 2):T α)=_
 have h:Nat.mod i 2=i%2:=rfl
 rcases Nat.mod_two_eq_zero_or_one i with h0 | h1
 ·rw [h,h0];rfl
 ·rw [h,h1];rfl
inductive Ok:T α→Nat→Prop
 | e:Ok .e 0
 | nd {l r:T α} {x:α} {n:Nat} (hl:Ok l ((n+1) / 2)) (hr:Ok r (n / 2)):Ok (.nd l x r) (n+1)
theorem Ok.get {t:T α}{n:Nat}(h:Ok t n):∀i,(∃x,t.get i=some x)↔i<n:=by
 induction h with
 | e=>intro i;simp
 | @nd l r x n hl hr ihl ihr=>
  intro i
  cases i with
  | zero=>simp
  | succ i=>
   rw [bJ]
   split
   ·rw [ihl];omega
   ·rw [ihr];omega
theorem Ok.put {t:T α}{n:Nat}(h:Ok t n):∀i (x:α),i<n→Ok (t.put i x) n:=by
 induction h with
 | e=>intro i x hi;omega
 | @nd l r y n hl hr ihl ihr=>
  intro i x hi
  cases i with
  | zero=>exact .nd hl hr
  | succ i=>
   rw [U7]
   split
   ·exact .nd (ihl _ _ (by omega)) hr
   ·exact .nd hl (ihr _ _ (by omega))
theorem Ok.push {t:T α}{n:Nat}(h:Ok t n):∀(x:α),Ok (t.put n x) (n+1):=by
 induction h with
 | e=>intro x;exact .nd .e .e
 | @nd l r y n hl hr ihl ihr=>
  intro x
  rw [U7]
  split
  ·rename_i h0
   refine .nd ?_ ?_
   ·have:=ihl x
    rw [show (n+1) / 2=n / 2 from by omega] at this
    rw [show (n+1+1) / 2=n / 2+1 from by omega];exact this
   ·rw [show (n+1) / 2=n / 2 from by omega];exact hr
  ·rename_i h0
   refine .nd ?_ ?_
   ·rw [show (n+1+1) / 2=(n+1) / 2 from by omega];exact hl
   ·have:=ihr x
    rw [show (n+1) / 2=n / 2+1 from by omega];exact this
theorem Z9 {t:T α}{n:Nat}(h:Ok t n):∀i (x:α),i≤n→(t.put i x).get i=some x:=by
 induction h with
 | e=>intro i x hi;obtain rfl:i=0:=by omega
      rfl
 | @nd l r y n hl hr ihl ihr=>
  intro i x hi
  cases i with
  | zero=>rfl
  | succ i=>
   rw [U7]
   split
   ·rename_i h0;rw [bJ,if_pos h0];exact ihl _ _ (by omega)
   ·rename_i h0;rw [bJ,if_neg h0];exact ihr _ _ (by omega)
theorem bE {t:T α}{n:Nat}(h:Ok t n):∀i j (x:α),i≤n→i≠j→(t.put i x).get j=t.get j:=by
 induction h with
 | e=>
  intro i j x hi hj
  obtain rfl:i=0:=by omega
  cases j with
  | zero=>omega
  | succ j=>rw [abV,bJ];simp
 | @nd l r y n hl hr ihl ihr=>
  intro i j x hi hij
  cases i with
  | zero=>
   cases j with
   | zero=>omega
   | succ j=>rw [Dp,bJ,bJ]
  | succ i=>
   rw [U7]
   cases j with
   | zero=>split<;>rfl
   | succ j=>
    split
    ·rename_i h0
     rw [bJ,bJ]
     split
     ·exact ihl _ _ _ (by omega) (by omega)
     ·rfl
    ·rename_i h0
     rw [bJ,bJ]
     split
     ·rfl
     ·exact ihr _ _ _ (by omega) (by omega)
theorem kW (x:α)(l:List α)(t:T α)(i:Nat):jo (x::l) t i=jo l (t.put i x) (i+1):=rfl
theorem wZ (l:List α):∀(t:T α) (i:Nat),Ok t i→Ok (jo l t i) (i+l.length):=by
 induction l with
 | nil=>intro t i h;exact h
 | cons x l ih=>intro t i h;rw [kW,List.length_cons,show i+(l.length+1)=i+1+l.length from by omega];exact ih _ _ (h.push x)
theorem vC (l:List α):∀(t:T α) (i:Nat),Ok t i→∀j,(jo l t i).get j=if j<i then t.get j else l[j-i]?:=by
 induction l with
 | nil=>
  intro t i h j
  show t.get j=_
  split
  ·rfl
  ·rename_i hj
   cases hg:t.get j with
   | none=>simp
   | some x=>exact absurd ((h.get j).1 ⟨x,hg⟩) hj
 | cons x l ih=>
  intro t i h j
  rw [kW,ih _ _ (h.push x)]
  by_cases h1:j<i
  ·rw [if_pos (by omega),if_pos h1,bE h _ _ _ (Nat.le_refl _) (by omega)]
  ·by_cases h2:j=i
   ·subst h2;rw [if_pos (by omega),Z9 h _ _ (Nat.le_refl _)];simp
   ·rw [if_neg (by omega),if_neg h1,show j-i=(j-(i+1))+1 from by omega];simp
theorem Z0 (l:List α)(j:Nat):(ofList l).get j=l[j]?:=by
 have:=vC l .e 0 .e j
 simpa [ofList] using this
theorem fG (l:List α):Ok (ofList l) l.length:=by
 have:=wZ l .e 0 .e
 simpa [ofList] using this
theorem xg (x:α)(n:Nat)(t:T α)(i:Nat):rep x (n+1) t i=rep x n (t.put i x) (i+1):=rfl
theorem Mg (x:α)(n:Nat):∀(t:T α) (i:Nat),Ok t i→Ok (rep x n t i) (i+n):=by
 induction n with
 | zero=>intro t i h;exact h
 | succ n ih=>intro t i h;rw [xg,show i+(n+1)=i+1+n from by omega];exact ih _ _ (h.push x)
theorem Gh (x:α)(n:Nat):∀(t:T α) (i:Nat),Ok t i→∀j,(rep x n t i).get j=if j<i then t.get j else if j<i+n then some x else none:=by
 induction n with
 | zero=>
  intro t i h j
  show t.get j=_
  split
  ·rfl
  ·rename_i hj
   rw [if_neg (by omega)]
   cases hg:t.get j with
   | none=>rfl
   | some y=>exact absurd ((h.get j).1 ⟨y,hg⟩) hj
 | succ n ih=>
  intro t i h j
  rw [xg,ih _ _ (h.push x)]
  by_cases h1:j<i
  ·rw [if_pos (by omega),if_pos h1,bE h _ _ _ (Nat.le_refl _) (by omega)]
  ·by_cases h2:j=i
   ·subst h2;rw [if_pos (by omega),Z9 h _ _ (Nat.le_refl _),if_neg h1,if_pos (by omega)]
   ·rw [if_neg (by omega),if_neg h1]
    by_cases h3:j<i+1+n
    ·rw [if_pos h3,if_pos (by omega)]
    ·rw [if_neg h3,if_neg (by omega)]
theorem vS (t:T α)(i:Nat):t.slice 0 i=some []:=rfl
theorem vT (t:T α)(n i:Nat):t.slice (n+1) i=ob (t.get i) fun x=>ob (t.slice n (i+1)) fun xs=>some (x::xs):=rfl
theorem Et (t:T α)(n:Nat):∀i l,t.slice n i=some l→l.length=n∧∀j,j<n→t.get (i+j)=l[j]?:=by
 induction n with
 | zero=>intro i l h;rw [vS] at h;cases h;simp
 | succ n ih=>
  intro i l h
  rw [vT] at h
  obtain⟨x,hx,h⟩:=J6 h
  obtain⟨xs,hxs,h⟩:=J6 h
  cases h
  obtain⟨hl,hg⟩:=ih _ _ hxs
  refine⟨by simp [hl],fun j hj=>?_⟩
  cases j with
  | zero=>simpa using hx
  | succ j=>rw [show i+(j+1)=i+1+j from by omega,hg j (by omega)];simp
end T
section
variable {α:Type}
@[simp] theorem Q5 (l:List α):len' l=l.length:=by
 induction l with
 | nil=>rfl
 | cons x l ih=>show Nat.succ (len' l)=_;rw [ih];rfl
@[simp] theorem X9 (l m:List α):jc l m=l++m:=by
 induction l with
 | nil=>rfl
 | cons x l ih=>show x::jc l m=_;rw [ih];rfl
@[simp] theorem jJ (n:Nat):∀l:List α,kR n l=l.drop n:=by
 induction n with
 | zero=>intro l;rfl
 | succ n ih=>
  intro l
  cases l with
  | nil=>rfl
  | cons x l=>exact ih l
@[simp] theorem je (n:Nat):∀l:List α,zw n l=l[n]?:=by
 induction n with
 | zero=>intro l;cases l<;>rfl
 | succ n ih=>
  intro l
  cases l with
  | nil=>rfl
  | cons x l=>show zw n l=_;rw [ih];rfl
@[simp] theorem Mh (n:Nat):∀l:List j6,nth n l=l[n]?.getD .undef:=by
 induction n with
 | zero=>intro l;cases l<;>rfl
 | succ n ih=>
  intro l
  cases l with
  | nil=>rfl
  | cons x l=>show nth n l=_;rw [ih];rfl
theorem gI (n:Nat):∀(l r:List α),takeN n l=some r→r=l.take n∧n≤l.length:=by
 induction n with
 | zero=>intro l r h;cases h;simp
 | succ n ih=>
  intro l r h
  cases l with
  | nil=>cases h
  | cons x l=>
   change ob (takeN n l) (fun r=>some (x::r))=some r at h
   obtain⟨r',hr,h⟩:=J6 h
   cases h
   obtain⟨h1,h2⟩:=ih _ _ hr
   exact⟨by simp [h1],by simp;omega⟩
theorem lZ (n:Nat):∀(l:List α),n≤l.length→takeN n l=some (l.take n):=by
 induction n with
 | zero=>intro l _;rfl
 | succ n ih=>
  intro l h
  cases l with
  | nil=>simp at h
  | cons x l=>
   change ob (takeN n l) (fun r=>some (x::r))=_
   rw [ih l (by simpa using h)];rfl
theorem iO (n:Nat)(vs:List α):∀(l:List α),n≤l.length→kS n vs l=l.take n++(vs++l.drop (n+vs.length)):=by
 induction n with
 | zero=>intro l _;show jc vs (kR (len' vs) l)=_;simp
 | succ n ih=>
  intro l h
  cases l with
  | nil=>simp at h
  | cons x l=>
   show x::kS n vs l=_
   rw [ih l (by simpa using h),show n+1+vs.length=(n+vs.length)+1 from by omega];simp
theorem qX (n:Nat)(vs l:List α)(h:n+vs.length≤l.length):(kS n vs l).length=l.length:=by
 rw [iO n vs l (by omega)];simp;omega
theorem Gi (n:Nat)(vs l:List α)(h:n+vs.length≤l.length)(j:Nat):
  (kS n vs l)[j]?=if n≤j∧j<n+vs.length then vs[j-n]? else l[j]?:=by
 rw [iO n vs l (by omega)]
 rw [List.getElem?_append]
 simp only [List.length_take,show min n l.length=n from by omega]
 split
 ·rw [if_neg (by omega),List.getElem?_take,if_pos (by omega)]
 ·rw [List.getElem?_append]
  split
  ·rw [if_pos (by omega)]
  ·rw [if_neg (by omega),List.getElem?_drop];congr 1;omega
end
structure Loc where
 b:Nat
 base:Nat
 cap:Nat
 spot:Option Nat
abbrev Inj:=Nat→Loc
def Inj.at (ι:Inj)(i o:Nat):Addr:=⟨(ι i).b,(ι i).base+o,if o=0 then (ι i).spot else none⟩
theorem Inj.BN {ι:Inj}{i:Nat}(h:(ι i).spot=none)(o:Nat):ι.at i o=⟨(ι i).b,(ι i).base+o,none⟩:=by simp [Inj.at,h]
def gX (ι:Inj):Fn→Fn
 | .yield l=>.yield (ι l).b
 | f=>f
mutual
def H8 (ι:Inj):j6→Value
 | .undef=>.tuple #[]
 | .bool b=>.bool b
 | .int k n=>.int k n
 | .str s=>.string ⟨s.toArray⟩
 | .nilPtr=>.pointer none
 | .ptr i o=>.pointer (some (ι.at i o))
 | .nilSlice=>.slice none 0 0
 | .slice i o l c=>.slice (some (ι.at i o)) l c
 | .sliceU i o l es=>.slice (some (ι.at i o)) l (((ι i).cap-o) / es)
 | .nilMap=>.map none
 | .map i=>.map (some (ι i).b)
 | .nilFunc=>.nilFunc
 | .func fn a b=>.func (gX ι fn) (I4 ι a).toArray (I4 ι b).toArray
 | .nilIface=>.nilIface
 | .iface t v=>.iface t (H8 ι v)
 | .agg l=>.agg (I4 ι l).toArray
 | .tuple l=>.tuple (I4 ι l).toArray
 | .pan v=>.tuple #[H8 ι v]
def I4 (ι:Inj):List j6→List Value
 | []=>[]
 | v::l=>H8 ι v::I4 ι l
end
structure Nm where
 has:Nat→Prop
 cap:Nat→Nat
instance:CoeFun Nm (fun _=>Nat→Prop):=⟨Nm.has⟩
def Nm.le (n m:Nm):Prop:=∀i,n i→m i∧m.cap i=n.cap i
theorem Nm.le_refl (n:Nm):n.le n:=fun _ h=>⟨h,rfl⟩
theorem Nm.le_trans {a b c:Nm}(h:a.le b)(k:b.le c):a.le c:=fun i hi=>⟨(k i (h i hi).1).1,(k i (h i hi).1).2.trans (h i hi).2⟩
def aaG (n:Nm):Fn→Prop
 | .yield l=>n l
 | _=>True
mutual
def j6.lt (n:Nm):j6→Prop
 | .ptr i _=>n i
 | .slice i _ _ _=>n i
 | .sliceU i o l es=>n i∧1≤es∧o+l*es≤n.cap i
 | .map i=>n i
 | .func fn a b=>aaG n fn∧ltL n a∧ltL n b
 | .iface _ v=>v.lt n
 | .agg l=>ltL n l
 | .tuple l=>ltL n l
 | .pan _=>False
 | _=>True
def ltL (n:Nm):List j6→Prop
 | []=>True
 | v::l=>v.lt n∧ltL n l
end
theorem aH (ι:Inj)(l:List j6):I4 ι l=l.map (H8 ι):=by
 induction l with
 | nil=>simp [I4]
 | cons v l ih=>simp [I4,ih]
theorem bG {n:Nm}{l:List j6}:ltL n l↔∀v∈l,v.lt n:=by
 induction l with
 | nil=>simp [ltL]
 | cons v l ih=>simp [ltL,ih]
@[simp] theorem U9 (ι:Inj)(l:List j6):(I4 ι l).length=l.length:=by simp [aH]
theorem ah (ι:Inj)(l:List j6)(i:Nat):(I4 ι l)[i]?=l[i]?.map (H8 ι):=by simp [aH]
mutual
theorem R3 {n:Nm}{ι ι':Inj}(h:∀i,n i→ι' i=ι i):∀v:j6,v.lt n→H8 ι' v=H8 ι v
 | .undef,_ | .bool _,_ | .int _ _,_ | .str _,_ | .nilPtr,_ | .nilSlice,_ | .nilMap,_ | .nilFunc,_ | .nilIface,_=>by simp [H8]
 | .ptr i o,hv=>by simp only [j6.lt] at hv;simp [H8,Inj.at,h i hv]
 | .slice i o l c,hv=>by simp only [j6.lt] at hv;simp [H8,Inj.at,h i hv]
 | .sliceU i o l c,hv=>by simp only [j6.lt] at hv;simp [H8,Inj.at,h i hv.1]
 | .map i,hv=>by simp only [j6.lt] at hv;simp [H8,h i hv]
 | .func fn a b,hv=>by
  simp only [j6.lt] at hv
  obtain⟨hf,ha,hb⟩:=hv
  have e:gX ι' fn=gX ι fn:=by cases fn<;>simp_all [gX,aaG]
  simp [H8,e,bP h a ha,bP h b hb]
 | .iface t v,hv=>by simp only [j6.lt] at hv;simp [H8,R3 h v hv]
 | .agg l,hv=>by simp only [j6.lt] at hv;simp [H8,bP h l hv]
 | .tuple l,hv=>by simp only [j6.lt] at hv;simp [H8,bP h l hv]
 | .pan v,hv=>by simp only [j6.lt] at hv
theorem bP {n:Nm}{ι ι':Inj}(h:∀i,n i→ι' i=ι i):∀l:List j6,ltL n l→I4 ι' l=I4 ι l
 | [],_=>by simp [I4]
 | v::l,hl=>by simp only [ltL] at hl;simp [I4,R3 h v hl.1,bP h l hl.2]
end
mutual
theorem j6.T9 {n m:Nm}(h:n.le m):∀v:j6,v.lt n→v.lt m
 | .undef,_ | .bool _,_ | .int _ _,_ | .str _,_ | .nilPtr,_ | .nilSlice,_ | .nilMap,_ | .nilFunc,_ | .nilIface,_=>by simp [j6.lt]
 | .ptr i o,hv=>by simp only [j6.lt] at *;exact (h _ hv).1
 | .slice i o l c,hv=>by simp only [j6.lt] at *;exact (h _ hv).1
 | .sliceU i o l c,hv=>by simp only [j6.lt] at *;exact⟨(h _ hv.1).1,hv.2.1,by rw [(h _ hv.1).2];exact hv.2.2⟩
 | .map i,hv=>by simp only [j6.lt] at *;exact (h _ hv).1
 | .func fn a b,hv=>by
  simp only [j6.lt] at *
  exact⟨by cases fn<;>first | trivial | exact (h _ hv.1).1,bU h a hv.2.1,bU h b hv.2.2⟩
 | .iface t v,hv=>by simp only [j6.lt] at *;exact j6.T9 h v hv
 | .agg l,hv=>by simp only [j6.lt] at *;exact bU h l hv
 | .tuple l,hv=>by simp only [j6.lt] at *;exact bU h l hv
 | .pan v,hv=>by simp only [j6.lt] at hv
theorem bU {n m:Nm}(h:n.le m):∀l:List j6,ltL n l→ltL m l
 | [],_=>by simp [ltL]
 | v::l,hl=>by simp only [ltL] at *;exact⟨j6.T9 h v hl.1,bU h l hl.2⟩
end
theorem jB (ι:Inj)(v:j6):(H8 ι v).cells=(I4 ι v.cells).toArray:=by
 cases v<;>simp [H8,Value.cells,j6.cells,I4]
theorem sP {n:Nm}{v:j6}(h:v.lt n):ltL n v.cells:=by
 cases v<;>simp_all [j6.lt,j6.cells,ltL]
mutual
theorem iP (ι:Inj):∀(v:Value) (a:j6),ofValue v=some a→H8 ι a=v∧∀n,a.lt n
 | .bool b,a,h=>by simp only [ofValue,Option.some.injEq] at h;subst h;simp [H8,j6.lt]
 | .int k n,a,h=>by simp only [ofValue,Option.some.injEq] at h;subst h;simp [H8,j6.lt]
 | .string s,a,h=>by simp only [ofValue,Option.some.injEq] at h;subst h;simp [H8,j6.lt]
 | .pointer none,a,h=>by simp only [ofValue,Option.some.injEq] at h;subst h;simp [H8,j6.lt]
 | .pointer (some _),a,h=>by simp [ofValue] at h
 | .slice none 0 0,a,h=>by simp only [ofValue,Option.some.injEq] at h;subst h;simp [H8,j6.lt]
 | .slice (some _) _ _,a,h=>by simp [ofValue] at h
 | .slice none (_+1) _,a,h=>by simp [ofValue] at h
 | .slice none 0 (_+1),a,h=>by simp [ofValue] at h
 | .map none,a,h=>by simp only [ofValue,Option.some.injEq] at h;subst h;simp [H8,j6.lt]
 | .map (some _),a,h=>by simp [ofValue] at h
 | .nilFunc,a,h=>by simp only [ofValue,Option.some.injEq] at h;subst h;simp [H8,j6.lt]
 | .nilIface,a,h=>by simp only [ofValue,Option.some.injEq] at h;subst h;simp [H8,j6.lt]
 | .func (.func f) ⟨[]⟩ ⟨[]⟩,a,h=>by simp only [ofValue,Option.some.injEq] at h;subst h;simp [H8,j6.lt,gX,I4,aaG,ltL]
 | .func (.func f) ⟨_ :: _⟩ _,a,h=>by simp [ofValue] at h
 | .func (.func f) ⟨[]⟩ ⟨_ :: _⟩,a,h=>by simp [ofValue] at h
 | .func (.method _) _ _,a,h=>by simp [ofValue] at h
 | .func (.methodOf _ _) _ _,a,h=>by simp [ofValue] at h
 | .func (.via _ _ _ _) _ _,a,h=>by simp [ofValue] at h
 | .func (.yield _) _ _,a,h=>by simp [ofValue] at h
 | .agg ⟨l⟩,a,h=>by
  simp only [ofValue] at h
  cases hx:ofValues l with
  | none=>simp [hx] at h
  | some x=>
   simp only [hx,Option.some.injEq] at h;subst h
   obtain⟨h1,h2⟩:=ng ι l x hx
   simp [H8,j6.lt,h1];exact h2
 | .tuple ⟨[]⟩,a,h=>by simp only [ofValue,Option.some.injEq] at h;subst h;simp [H8,j6.lt,I4,ltL]
 | .tuple ⟨_ :: _⟩,a,h=>by simp [ofValue] at h
 | .float _ _,a,h=>by simp [ofValue] at h
 | .complex _ _ _,a,h=>by simp [ofValue] at h
 | .chan _,a,h=>by simp [ofValue] at h
 | .iface _ _,a,h=>by simp [ofValue] at h
theorem ng (ι:Inj):∀(l:List Value) (x:List j6),ofValues l=some x→I4 ι x=l∧∀n,ltL n x
 | [],x,h=>by simp only [ofValues,Option.some.injEq] at h;subst h;simp [I4,ltL]
 | v::l,x,h=>by
  simp only [ofValues] at h
  cases hv:ofValue v with
  | none=>simp [hv] at h
  | some a=>
   cases hl:ofValues l with
   | none=>simp [hv,hl] at h
   | some y=>
    simp only [hv,hl,Option.some.injEq] at h;subst h
    obtain⟨h1,h2⟩:=iP ι v a hv
    obtain⟨h3,h4⟩:=ng ι l y hl
    simp [I4,ltL,h1,h3];exact fun n=>⟨h2 n,h4 n⟩
end
end Go.AM
namespace Go.AM
open Go
theorem Uz:∀(n j:Nat) (t:T j6),j+1<2^n→way n j t=(t.get j).getD .undef:=by
 intro n
 induction n with
 | zero=>intro j t h;simp at h
 | succ n ih=>
  intro j t h
  cases j with
  | zero=>cases t<;>rfl
  | succ j=>
   have hj:j / 2+1<2^n:=by rw [Nat.pow_succ] at h;omega
   rcases Nat.mod_two_eq_zero_or_one j with h0 | h0
   ·simp only [way,h0]
    cases t with
    | e=>rfl
    | nd l x r=>rw [T.bJ,if_pos h0];exact ih _ l hj
   ·simp only [way,h0]
    cases t with
    | e=>rfl
    | nd l x r=>rw [T.bJ,if_neg (by omega)];exact ih _ r hj
theorem NN (v:j6):∀(n j:Nat) (t:T j6) (x:j6),j+1<2^n→t.get j=some x→J4 n j v t=t.put j v:=by
 intro n
 induction n with
 | zero=>intro j t x h;simp at h
 | succ n ih=>
  intro j t x h hx
  cases t with
  | e=>simp at hx
  | nd l y r=>
   cases j with
   | zero=>rfl
   | succ j=>
    have hj:j / 2+1<2^n:=by rw [Nat.pow_succ] at h;omega
    rw [T.bJ] at hx
    rcases Nat.mod_two_eq_zero_or_one j with h0 | h0
    ·rw [if_pos h0] at hx
     simp only [J4,h0]
     rw [T.U7,if_pos h0];show T.nd (J4 n (j / 2) v l) y r=_;rw [ih _ l x hj hx]
    ·rw [if_neg (by omega)] at hx
     simp only [J4,h0]
     rw [T.U7,if_neg (by omega)];show T.nd l y (J4 n (j / 2) v r)=_;rw [ih _ r x hj hx]
theorem oD {t:Nat}{l:List Nat}{i j:Nat}(h:idxOf t l i=some j):i≤j∧j<i+l.length∧l[j-i]?=some t:=by
 induction l generalizing i with
 | nil=>simp [idxOf] at h
 | cons x l ih=>
  simp only [idxOf] at h
  cases hx:Nat.beq x t with
  | true=>
   simp only [hx,cond_true,Option.some.injEq] at h
   subst h
   have:=Nat.eq_of_beq_eq_true hx
   simp [this]
  | false=>
   simp only [hx,cond_false] at h
   obtain⟨h1,h2,h3⟩:=ih h
   refine⟨by omega,by simp;omega,?_⟩
   rw [show j-i=(j-(i+1))+1 from by omega];simpa using h3
theorem Gj {t u:Nat}{l:List Nat}{i j:Nat}(h:idxOf t l i=some j)(h':idxOf u l i=some j):t=u:=by
 have a:=(oD h).2.2
 have b:=(oD h').2.2
 rw [a] at b;exact Option.some.inj b
structure aQ (ι:Inj)(n:Nm)(slots:List Nat)(env:T j6)(tmps:Array Value):Prop where
 ok:T.Ok env slots.length
 small:slots.length<2^60
 val:∀t j,idxOf t slots 0=some j→t<tmps.size∧∃v,env.get j=some v∧v.lt n∧tmps.getD t undef=H8 ι v
theorem aQ.mono {ι ι':Inj}{n n':Nm}{slots:List Nat}{env:T j6}{tmps:Array Value}(h:aQ ι n slots env tmps)
  (hi:∀i,n i→ι' i=ι i) (hn:n.le n'):aQ ι' n' slots env tmps:=
 ⟨h.ok,h.small,fun t j ht=>by
  obtain⟨h1,v,h2,h3,h4⟩:=h.val t j ht
  exact⟨h1,v,h2,v.T9 hn h3,by rw [h4,R3 hi v h3]⟩⟩
theorem V5 (a:Array Value)(i j:Nat)(v:Value)(hi:i<a.size):
  (a.setIfInBounds i v).getD j undef=if i=j then v else a.getD j undef:=by
 rw [Array.getD_eq_getD_getElem?,Array.getD_eq_getD_getElem?]
 by_cases h:i=j
 ·subst h;rw [if_pos rfl,Array.getElem?_setIfInBounds_self_of_lt hi];rfl
 ·rw [if_neg h,Array.getElem?_setIfInBounds_ne h]
theorem aQ.put {ι:Inj}{n:Nm}{slots:List Nat}{env:T j6}{tmps:Array Value}(h:aQ ι n slots env tmps)(d:Option Tmp){v:j6}(hv:v.lt n):
  aQ ι n slots (trD (Me slots d) v env) (match d with | some t=>tmps.setIfInBounds t (H8 ι v) | none=>tmps):=by
 cases d with
 | none=>exact h
 | some t=>
  simp only [Me]
  cases ht:idxOf t slots 0 with
  | none=>
   refine⟨h.ok,h.small,fun u j hu=>?_⟩
   obtain⟨h1,v',h2,h3,h4⟩:=h.val u j hu
   refine⟨by simpa using h1,v',h2,h3,?_⟩
   have hne:t≠u:=fun e=>by subst e;rw [ht] at hu;cases hu
   by_cases hts:t<tmps.size
   ·rw [V5 _ _ _ _ hts,if_neg hne];exact h4
   ·rw [show tmps.setIfInBounds t (H8 ι v)=tmps from Array.setIfInBounds_eq_of_size_le (Nat.le_of_not_lt hts)];exact h4
  | some k=>
   obtain⟨h1,x,h2,_,_⟩:=h.val t k ht
   have hk:=(oD ht).2.1
   have hway:trD (some k) v env=env.put k v:=NN v 64 k env x (by have:=h.small;have:(2:Nat)^60<2^64:=by decide
                                                                 omega) h2
   rw [hway]
   refine⟨h.ok.put _ _ (by omega),h.small,fun u j hu=>?_⟩
   obtain⟨g1,v',g2,g3,g4⟩:=h.val u j hu
   refine⟨by simpa using g1,?_⟩
   rw [V5 _ _ _ _ h1]
   by_cases he:t=u
   ·subst he
    rw [ht] at hu;cases hu
    exact⟨v,T.Z9 h.ok _ _ (by omega),hv,by simp⟩
   ·refine⟨v',?_,g3,by rw [if_neg he];exact g4⟩
    rw [T.bE h.ok _ _ _ (by omega) (fun e=>he (by subst e;exact Gj ht hu))];exact g2
def Z4:Blk→Bool
 | .cells .. | .map _ | .iter .. | .loop .. | .deferred=>true
 | _=>false
def exitCode:aX→Code
 | .normal=>.skip
 | .exit id=>.exit id
 | .ret=>.ret
section
variable (P:Program)
structure tO (ι:Inj)(n:Nm)(L:Loop)(st:LoopState)(pend:Option aX)(env:T j6)(params:List (Option Nat))(assign body:aG):Prop where
 state:L.state=st
 pending:L.pending=pend.map exitCode
 code:∃slots,aQ ι n slots env L.tmps∧params=L.params.toList.map (fun t=>idxOf t slots 0)∧V7 P slots L.assign=some assign∧V7 P slots L.body=some body∧
  ∃nt,nt≤L.tmps.size∧tmpsIn nt L.assign=true∧tmpsIn nt L.body=true
def M7 (ι:Inj):List (j6×j6)→Nat→List MapEntry
 | [],_=>[]
 | e::es,i=>{key:=H8 ι e.1,val:=H8 ι e.2,born:=i}::M7 ι es (i+1)
def dR (ι:Inj)(n:Nm)(h:Array Obj)(l:Loc):Blk→Prop
 | .void=>True
 | .dead=>True
 | .cells rs k rows=>∃c e fz,h[l.b]?=some (.cells c e fz)∧l.base+l.cap≤c.size∧(k*rs≤l.cap∧∃N,k≤N∧T.Ok rows N)∧
   ∀i,i<k→∃row,rows.get i=some row∧row.length=rs∧ltL n row∧∀j,j<rs→c[l.base+(i*rs+j)]?=(row[j]?).map (H8 ι)
 | .map es=>h[l.b]?=some (.map (M7 ι es 0).toArray es.length)∧∀e∈es,e.1.lt n∧e.2.lt n
 | .iter mp since seen=>l.base=0∧(∀x,mp=some x→n x)∧∃sn st,h[l.b]?=some (.mapIter (mp.map fun x=>(ι x).b) since sn st)∧sn.toList.reverse=seen∧(mp≠none→st=since)
 | .tail p=>n p∧(l.cap=0∨(l.b=(ι p).b∧l.base+l.cap≤(ι p).base+(ι p).cap∧((ι p).spot=none→l.spot=none)))
 | .loop st pend env params assign body=>∃L,h[l.b]?=some (.loop L)∧tO P ι n L st pend env params assign body
 | .deferred=>h[l.b]?=some (.deferred (some []))
structure apa (ι:Inj)(m:Mem)(h:Array Obj)(i:Nat):Prop where
 alone:∀j b,j≠i→m.get j=some b→Z4 b=true→(ι j).b≠(ι i).b
 free:∀c e fz,h[(ι i).b]?=some (.cells c e fz)→∀k,k<c.size→¬ (fz.1≤k∧k<fz.2)
def gy:Blk→Bool
 | .void=>true
 | _=>false
def Mem.has (m:Mem)(i:Nat):Prop:=∃b,m.get i=some b∧gy b=false
def Mem.nm (m:Mem)(ι:Inj):Nm:=⟨m.has,fun i=>(ι i).cap⟩
theorem Mem.aV {m m':Mem}{ι ι':Inj}(h:∀i,m.has i→m'.has i)(hi:∀i,m.has i→ι' i=ι i):(m.nm ι).le (m'.nm ι'):=
 fun i hh=>⟨h i hh,congrArg Loc.cap (hi i hh)⟩
def GSz (P:Program)(G:Mem)(h:Array Obj):Prop:=∀i rs k rows,i<P.globals.size→G.get i=some (.cells rs k rows)→∃c e fz,h[i]?=some (.cells c e fz)∧c.size=k*rs
structure RM (G:Mem)(ι:Inj)(m:Mem)(h:Array Obj):Prop where
 ok:T.Ok m.t m.next
 blk:∀i b,m.get i=some b→dR P ι (m.nm ι) h (ι i) b
 own:∀i b,m.lim≤i→m.get i=some b→Z4 b=true→apa ι m h i
 glim:G.next≤m.lim
 limn:m.lim≤m.next
 gle:P.globals.size≤G.next
 base:∀i,i<G.next→m.get i=G.get i
 ghas:∀i,i<P.globals.size→m.has i
 glob:∀i,i<P.globals.size→(ι i).b=i∧(ι i).base=0∧(ι i).spot=none
 spot:∀i b,m.get i=some b→Z4 b=true→(ι i).spot=none
 gsz:GSz P G h
end
def Gl (ι:Inj)(m:Mem)(b:Nat):Prop:=∃i x,m.lim≤i∧m.get i=some x∧Z4 x=true∧(ι i).b=b
theorem RM.Gm {P:Program}{G:Mem}{ι:Inj}{m:Mem}{h h':Array Obj}(hm:RM P G ι m h)(hh:∀b,b<h.size→¬ Gl ι m b→h'[b]?=h[b]?):GSz P G h':=by
 intro i rs k rows hi hg
 obtain⟨c,e,fz,h1,h2⟩:=hm.gsz i rs k rows hi hg
 have hlt:i<h.size:=(Array.getElem?_eq_some_iff.1 h1).1
 have hGn:i<G.next:=Nat.lt_of_lt_of_le hi hm.gle
 have hmi:m.get i=some (.cells rs k rows):=(hm.base i hGn).trans hg
 refine⟨c,e,fz,?_,h2⟩
 rw [hh i hlt]
 ·exact h1
 ·rintro⟨j,x,hj,hx,hlx,hb⟩
  have hne:i≠j:=by have:=hm.glim;omega
  exact (hm.own j x hj hx hlx).alone i _ hne hmi rfl (by rw [(hm.glob i hi).1,hb])
structure Step (P:Program)(G:Mem)(ι:Inj)(m:Mem)(w:World)(ι':Inj)(m':Mem)(w':World):Prop where
 rm:RM P G ι' m' w'.heap
 ext:∀i,m.has i→ι' i=ι i
 has:∀i,m.has i→m'.has i
 next:m.next≤m'.next
 lim:m'.lim=m.lim
 old:∀i,i<m.lim→m'.get i=m.get i
 size:w.heap.size≤w'.heap.size
 frame:∀b,b<w.heap.size→¬ Gl ι m b→w'.heap[b]?=w.heap[b]?
 own:∀b,Gl ι' m' b→Gl ι m b∨w.heap.size≤b
 os:w'.os=w.os
 out:w'.output=w.output
 tape:w'.tape=w.tape
theorem Step.refl {P:Program}{G:Mem}{ι:Inj}{m:Mem}{w:World}(h:RM P G ι m w.heap):Step P G ι m w ι m w:=
 ⟨h,fun _ _=>rfl,fun _ h=>h,Nat.le_refl _,rfl,fun _ _=>rfl,Nat.le_refl _,fun _ _ _=>rfl,fun _ h=>.inl h,rfl,rfl,rfl⟩
theorem Step.drew {P:Program}{G:Mem}{ι:Inj}{m:Mem}{w:World}(h:RM P G ι m w.heap)(n:Nat):Step P G ι m w ι m {w with drawn:=n}:=
 ⟨h,fun _ _=>rfl,fun _ h=>h,Nat.le_refl _,rfl,fun _ _=>rfl,Nat.le_refl _,fun _ _ _=>rfl,fun _ h=>.inl h,rfl,rfl,rfl⟩
theorem Step.trans {P:Program}{G:Mem}{ι₁ ι₂ ι₃:Inj}{m₁ m₂ m₃:Mem}{w₁ w₂ w₃:World}(a:Step P G ι₁ m₁ w₁ ι₂ m₂ w₂)(b:Step P G ι₂ m₂ w₂ ι₃ m₃ w₃):
  Step P G ι₁ m₁ w₁ ι₃ m₃ w₃ where
 rm:=b.rm
 ext i hi:=(b.ext i (a.has i hi)).trans (a.ext i hi)
 has i hi:=b.has i (a.has i hi)
 next:=Nat.le_trans a.next b.next
 lim:=b.lim.trans a.lim
 old i hi:=(b.old i (by rw [a.lim];exact hi)).trans (a.old i hi)
 size:=Nat.le_trans a.size b.size
 frame x hx ho:=by
  refine (b.frame x (Nat.lt_of_lt_of_le hx a.size) fun h=>?_).trans (a.frame x hx ho)
  rcases a.own x h with h | h
  ·exact ho h
  ·omega
 own x h:=by
  rcases b.own x h with h | h
  ·exact a.own x h
  ·exact .inr (Nat.le_trans a.size h)
 os:=b.os.trans a.os
 out:=b.out.trans a.out
 tape:=b.tape.trans a.tape
theorem Step.H8 {P:Program}{G:Mem}{ι ι':Inj}{m m':Mem}{w w':World}(a:Step P G ι m w ι' m' w'){v:j6}(h:v.lt (m.nm ι)):AM.H8 ι' v=AM.H8 ι v:=
 R3 (n:=m.nm ι) a.ext v h
theorem Step.env {P:Program}{G:Mem}{ι ι':Inj}{m m':Mem}{w w':World}(a:Step P G ι m w ι' m' w'){slots:List Nat}{env:T j6}{tmps:Array Value}
  (h:aQ ι (m.nm ι) slots env tmps):aQ ι' (m'.nm ι') slots env tmps:=h.mono (n:=m.nm ι) a.ext (Mem.aV a.has a.ext)
theorem tO.mono {P:Program}{ι ι':Inj}{n n':Nm}{L:Loop}{st:LoopState}{pend:Option aX}{env:T j6}{params:List (Option Nat)}{assign body:aG}
  (h:tO P ι n L st pend env params assign body) (hi:∀i,n i→ι' i=ι i) (hn:n.le n'):tO P ι' n' L st pend env params assign body:=by
 obtain⟨h1,h2,slots,h3,h4⟩:=h
 exact⟨h1,h2,slots,h3.mono hi hn,h4⟩
theorem oF {ι ι':Inj}{n:Nm}(hi:∀i,n i→ι' i=ι i):∀(es:List (j6×j6)) (i:Nat),(∀e∈es,e.1.lt n∧e.2.lt n)→M7 ι' es i=M7 ι es i
 | [],_,_=>rfl
 | e::es,i,h=>by
  simp only [M7]
  rw [R3 hi _ (h e (by simp)).1,R3 hi _ (h e (by simp)).2,oF hi es (i+1) (fun e he=>h e (by simp [he]))]
@[simp] theorem vD (ι:Inj):∀(es:List (j6×j6)) (i:Nat),(M7 ι es i).length=es.length
 | [],_=>rfl
 | e::es,i=>by simp [M7,vD ι es]
theorem gY (ι:Inj):∀(es:List (j6×j6)) (i j:Nat),(M7 ι es i)[j]?=(es[j]?).map fun e=>{key:=H8 ι e.1,val:=H8 ι e.2,born:=i+j}
 | [],_,_=>by simp [M7]
 | e::es,i,0=>by simp [M7]
 | e::es,i,j+1=>by simp [M7,gY ι es,show i+1+j=i+(j+1) from by omega]
theorem dR.mono {P:Program}{ι ι':Inj}{n n':Nm}{h h':Array Obj}{l:Loc}{b:Blk}(hb:dR P ι n h l b)
  (hi:∀i,n i→ι' i=ι i) (hn:n.le n') (hh:Z4 b=true→h'[l.b]?=h[l.b]?):dR P ι' n' h' l b:=by
 cases b with
 | void=>trivial
 | dead=>trivial
 | cells rs k rows=>
  obtain⟨c,e,fz,h1,h2,h3,h4⟩:=hb
  refine⟨c,e,fz,by rw [hh rfl];exact h1,h2,h3,fun i hk=>?_⟩
  obtain⟨row,g1,g2,g3,g4⟩:=h4 i hk
  refine⟨row,g1,g2,bU hn row g3,fun j hj=>?_⟩
  rw [g4 j hj]
  cases hr:row[j]? with
  | none=>rfl
  | some v=>simp [R3 hi v (bG.1 g3 v (List.mem_of_getElem? hr))]
 | map es=>
  obtain⟨h1,h2⟩:=hb
  refine⟨?_,fun e he=>⟨e.1.T9 hn (h2 e he).1,e.2.T9 hn (h2 e he).2⟩⟩
  rw [hh rfl,h1,oF hi es 0 h2]
 | iter mp since seen=>
  obtain⟨h0,h1,sn,st,h2,h3,h4⟩:=hb
  refine⟨h0,fun x hx=>(hn x (h1 x hx)).1,sn,st,?_,h3,h4⟩
  rw [hh rfl,h2]
  cases mp with
  | none=>rfl
  | some x=>simp [hi x (h1 x rfl)]
 | tail p=>
  obtain⟨h1,h2⟩:=hb
  exact⟨(hn p h1).1,by rw [hi p h1];exact h2⟩
 | loop st pend env params assign body=>
  obtain⟨L,h1,h2⟩:=hb
  exact⟨L,by rw [hh rfl];exact h1,h2.mono hi hn⟩
 | deferred=>exact (hh rfl).trans hb
theorem Mem.U2 {m:Mem}(h:T.Ok m.t m.next)(b:Blk)(i:Nat):(m.new b).get i=if i=m.next then some b else m.get i:=by
 show (m.t.put m.next b).get i=_
 split
 ·rename_i e;subst e;exact T.Z9 h _ _ (Nat.le_refl _)
 ·rename_i e;exact T.bE h _ _ _ (Nat.le_refl _) (fun h=>e h.symm)
theorem Mem.Z6 {m:Mem}(h:T.Ok m.t m.next){j:Nat}(hj:j<m.next)(b:Blk)(i:Nat):(m.set j b).get i=if i=j then some b else m.get i:=by
 show (m.t.put j b).get i=_
 split
 ·rename_i e;subst e;exact T.Z9 h _ _ (Nat.le_of_lt hj)
 ·rename_i e;exact T.bE h _ _ _ (Nat.le_of_lt hj) (fun h=>e h.symm)
theorem Mem.M9 {m:Mem}(h:T.Ok m.t m.next){i:Nat}{b:Blk}(hi:m.get i=some b):i<m.next:=(h.get i).1 ⟨b,hi⟩
@[simp] theorem Mem.Dq (m:Mem)(b:Blk):(m.new b).next=m.next+1:=rfl
@[simp] theorem Mem.NP (m:Mem)(b:Blk):(m.new b).lim=m.lim:=rfl
@[simp] theorem Mem.aaH (m:Mem)(i:Nat)(b:Blk):(m.set i b).next=m.next:=rfl
@[simp] theorem Mem.abW (m:Mem)(i:Nat)(b:Blk):(m.set i b).lim=m.lim:=rfl
def Inj.upd (ι:Inj)(i:Nat)(l:Loc):Inj:=fun j=>if j=i then l else ι j
@[simp] theorem Inj.Q8 (ι:Inj)(i:Nat)(l:Loc):ι.upd i l i=l:=by simp [Inj.upd]
theorem Inj.upd_ne (ι:Inj){i j:Nat}(l:Loc)(h:j≠i):ι.upd i l j=ι j:=by simp [Inj.upd,h]
theorem bK {P:Program}{ι:Inj}{n:Nm}{h:Array Obj}{l:Loc}{b:Blk}(hb:dR P ι n h l b)(hl:Z4 b=true):l.b<h.size:=by
 cases b with
 | void=>cases hl
 | dead=>cases hl
 | tail=>cases hl
 | cells rs k rows=>obtain⟨c,e,fz,h1,_⟩:=hb;exact (Array.getElem?_eq_some_iff.1 h1).1
 | map es=>obtain⟨h1,_⟩:=hb;exact (Array.getElem?_eq_some_iff.1 h1).1
 | iter mp since seen=>obtain⟨_,_,sn,st,h1,_⟩:=hb;exact (Array.getElem?_eq_some_iff.1 h1).1
 | loop=>obtain⟨L,h1,_⟩:=hb;exact (Array.getElem?_eq_some_iff.1 h1).1
 | deferred=>exact (Array.getElem?_eq_some_iff.1 hb).1
structure Laid (m m':Mem)(nid:Nat)(b:Blk):Prop where
 ok:T.Ok m'.t m'.next
 get:∀i,m'.get i=if i=nid then some b else m.get i
 lim:m'.lim=m.lim
 next:m.next≤m'.next
 le:m.lim≤nid
 free:¬ m.has nid
 live:gy b=false
theorem Laid.new {m:Mem}(h:T.Ok m.t m.next)(hl:m.lim≤m.next)(b:Blk)(hb:gy b=false):Laid m (m.new b) m.next b:=
 ⟨h.push b,Mem.U2 h b,rfl,Nat.le_succ _,hl,fun ⟨_,h1,_⟩=>Nat.lt_irrefl _ (Mem.M9 h h1),hb⟩
theorem Laid.set {m:Mem}(h:T.Ok m.t m.next){i:Nat}(hi:m.get i=some .void)(hl:m.lim≤i)(b:Blk)(hb:gy b=false):Laid m (m.set i b) i b:=
 ⟨h.put i b (Mem.M9 h hi),Mem.Z6 h (Mem.M9 h hi) b,rfl,Nat.le_refl _,hl,fun ⟨_,h1,h2⟩=>(by rw [hi] at h1;cases h1;cases h2),hb⟩
theorem Laid.has {m m':Mem}{nid:Nat}{b:Blk}(h:Laid m m' nid b)(i:Nat)(hi:m.has i):m'.has i:=by
 have hne:i≠nid:=fun e=>h.free (e▸hi)
 obtain⟨x,h1,h2⟩:=hi
 exact⟨x,by rw [h.get,if_neg hne];exact h1,h2⟩
theorem Laid.self {m m':Mem}{nid:Nat}{b:Blk}(h:Laid m m' nid b):m'.has nid:=⟨b,by rw [h.get,if_pos rfl],h.live⟩
theorem mg {m:Mem}{i:Nat}{b:Blk}(h:m.get i=some b)(hl:Z4 b=true):m.has i:=⟨b,h,by cases b<;>first | rfl | cases hl⟩
structure UA (w w':World)(o:Obj):Prop where
 heap:w'.heap=w.heap.push o
 os:w'.os=w.os
 out:w'.output=w.output
 tape:w'.tape=w.tape
theorem Step.lay {P:Program}{G:Mem}{ι:Inj}{m m':Mem}{w w':World}(h:RM P G ι m w.heap){nid:Nat}{b:Blk}(hm:Laid m m' nid b){o:Obj}(hw:UA w w' o){l:Loc}
  (hl:l.b=w.heap.size) (hs:l.spot=none)
  (hb:dR P (ι.upd nid l) (m'.nm (ι.upd nid l)) (w.heap.push o) l b)
  (hf:∀c e fz,o=.cells c e fz→∀k,k<c.size→¬ (fz.1≤k∧k<fz.2)):
  Step P G ι m w (ι.upd nid l) m' w':=by
 have hold:∀i x,m.get i=some x→Z4 x=true→(ι i).b<w.heap.size:=fun i x hx hlx=>bK (h.blk i x hx) hlx
 have hpush:∀k,k<w.heap.size→w'.heap[k]?=w.heap[k]?:=fun k hk=>by rw [hw.heap];exact Array.getElem?_push_lt hk |>.trans (Array.getElem?_eq_getElem hk).symm
 have hext:∀j,m.has j→ι.upd nid l j=ι j:=fun j hj=>ι.upd_ne l fun e=>hm.free (e▸hj)
 refine⟨⟨hm.ok,?_,?_,by rw [hm.lim];exact h.glim,by rw [hm.lim];exact Nat.le_trans h.limn hm.next,h.gle,fun i hi=>by rw [hm.get,if_neg (by have:=hm.le;have:=h.glim;omega)];exact h.base i hi,fun i hi=>hm.has i (h.ghas i hi),?_,?_,h.Gm fun k hk _=>hpush k hk⟩,hext,hm.has,hm.next,hm.lim,?_,by rw [hw.heap];simp,?_,?_,hw.os,hw.out,hw.tape⟩
 ·intro i x hx
  rw [hm.get] at hx
  split at hx
  ·rename_i e;subst e;cases hx;rw [hw.heap];simpa using hb
  ·rename_i e
   rw [ι.upd_ne l e]
   exact (h.blk i x hx).mono (n:=m.nm ι) hext (Mem.aV hm.has hext) (fun hlx=>hpush _ (hold i x hx hlx))
 ·intro i x hi hx hlx
  rw [hm.lim] at hi
  rw [hm.get] at hx
  split at hx
  ·rename_i e;subst e;cases hx
   refine⟨fun j y hj hy hly=>?_,fun c e fz hc=>?_⟩
   ·rw [hm.get,if_neg hj] at hy
    rw [ι.upd_ne l hj,ι.Q8,hl]
    have:=hold j y hy hly;omega
   ·rw [ι.Q8,hl,hw.heap] at hc
    simp at hc
    exact hf c e fz hc
  ·rename_i e
   have ho:=h.own i x hi hx hlx
   have hb':=hold i x hx hlx
   refine⟨fun j y hj hy hly=>?_,fun c e' fz hc=>?_⟩
   ·rw [ι.upd_ne l e]
    rw [hm.get] at hy
    split at hy
    ·rename_i ej;subst ej;cases hy;rw [ι.Q8,hl];omega
    ·rename_i ej;rw [ι.upd_ne l ej];exact ho.alone j y hj hy hly
   ·rw [ι.upd_ne l e] at hc
    rw [hpush _ hb'] at hc
    exact ho.free c e' fz hc
 ·intro i hi
  rw [hext i (h.ghas i hi)];exact h.glob i hi
 ·intro i x hx hlx
  rw [hm.get] at hx
  split at hx
  ·rename_i e;subst e;rw [ι.Q8];exact hs
  ·rename_i e;rw [ι.upd_ne l e];exact h.spot i x hx hlx
 ·intro i hi
  rw [hm.get,if_neg (by have:=hm.le;omega)]
 ·intro b' hb' _;exact hpush b' hb'
 ·rintro b' ⟨i,x,hi,hx,hlx,rfl⟩
  rw [hm.lim] at hi
  rw [hm.get] at hx
  split at hx
  ·rename_i e;subst e;right;rw [ι.Q8,hl];exact Nat.le_refl _
  ·rename_i e;left
   rw [ι.upd_ne l e]
   exact⟨i,x,hi,hx,hlx,rfl⟩
theorem Step.name {P:Program}{G:Mem}{ι:Inj}{m m':Mem}{w:World}(h:RM P G ι m w.heap){nid:Nat}{b:Blk}(hm:Laid m m' nid b)(hd:Z4 b=false){l:Loc}
  (hb:dR P (ι.upd nid l) (m'.nm (ι.upd nid l)) w.heap l b):Step P G ι m w (ι.upd nid l) m' w:=by
 have hext:∀j,m.has j→ι.upd nid l j=ι j:=fun j hj=>ι.upd_ne l fun e=>hm.free (e▸hj)
 have hne:∀i x,m'.get i=some x→Z4 x=true→i≠nid∧m.get i=some x:=fun i x hx hlx=>by
  rw [hm.get] at hx
  split at hx
  ·cases hx;rw [hd] at hlx;cases hlx
  ·exact⟨by assumption,hx⟩
 refine⟨⟨hm.ok,?_,?_,by rw [hm.lim];exact h.glim,by rw [hm.lim];exact Nat.le_trans h.limn hm.next,h.gle,fun i hi=>by rw [hm.get,if_neg (by have:=hm.le;have:=h.glim;omega)];exact h.base i hi,fun i hi=>hm.has i (h.ghas i hi),?_,?_,h.gsz⟩,hext,hm.has,hm.next,hm.lim,?_,Nat.le_refl _,fun _ _ _=>rfl,?_,rfl,rfl,rfl⟩
 ·intro i x hx
  rw [hm.get] at hx
  split at hx
  ·rename_i e;subst e;cases hx;simpa using hb
  ·rename_i e
   rw [ι.upd_ne l e]
   exact (h.blk i x hx).mono (n:=m.nm ι) hext (Mem.aV hm.has hext) (fun _=>rfl)
 ·intro i x hi hx hlx
  rw [hm.lim] at hi
  obtain⟨h1,h2⟩:=hne i x hx hlx
  have ho:=h.own i x hi h2 hlx
  refine⟨fun j y hj hy hly=>?_,fun c e' fz hc=>?_⟩
  ·obtain⟨h3,h4⟩:=hne j y hy hly
   rw [ι.upd_ne l h1,ι.upd_ne l h3];exact ho.alone j y hj h4 hly
  ·rw [ι.upd_ne l h1] at hc;exact ho.free c e' fz hc
 ·intro i hi
  rw [hext i (h.ghas i hi)];exact h.glob i hi
 ·intro i x hx hlx
  obtain⟨h1,h2⟩:=hne i x hx hlx
  rw [ι.upd_ne l h1];exact h.spot i x h2 hlx
 ·intro i hi
  rw [hm.get,if_neg (by have:=hm.le;omega)]
 ·rintro b' ⟨i,x,hi,hx,hlx,rfl⟩
  rw [hm.lim] at hi
  obtain⟨h1,h2⟩:=hne i x hx hlx
  rw [ι.upd_ne l h1]
  exact .inl ⟨i,x,hi,h2,hlx,rfl⟩
end Go.AM
namespace Go.AM
open Go
def apb (ι:Inj)(n:Nm)(done:List (Option Nat))(ls:List j6)(tmps:Array Value):Prop:=
 ∀t k,gW t done 0=some k→∃v,ls[k]?=some v∧v.lt n∧tmps.getD t undef=H8 ι v
structure St (P:Program)(ι:Inj)(n:Nm)(slots:List Nat)(done:List (Option Nat))(ls:List j6)(env:T j6)(tmps:Array Value):Prop where
 ls:apb ι n done ls tmps
 env:aQ ι n slots env tmps
 glob:∀i,i<P.globals.size→(ι i).b=i∧(ι i).base=0∧(ι i).spot=none
 gn:∀g,g<P.globals.size→n g
section
variable {P:Program}{G:Mem}{ι:Inj}{n:Nm}{slots:List Nat}{done:List (Option Nat)}{ls:List j6}{env:T j6}{a:Act}
theorem BO (k:Nat):∀(ls:List j6) (env:T j6),trO (.loc k) ls env=ls[k]?.getD .undef:=by
 intro ls env
 match k with
 | 0=>cases ls<;>rfl
 | 1=>match ls with | [] | [_] | _ :: _ :: _=>rfl
 | 2=>match ls with | [] | [_] | [_,_] | _ :: _ :: _ :: _=>rfl
 | 3=>match ls with | [] | [_] | [_,_] | [_,_,_] | _ :: _ :: _ :: _ :: _=>rfl
 | k+4=>show nth (k+4) ls=_;exact Mh _ _
theorem JV (j:Nat)(h:j<2^60)(ls:List j6)(env:T j6):trO (.slot j) ls env=(env.get j).getD .undef:=by
 show way 64 j env=_
 exact Uz 64 j env (by have:(2:Nat)^60+1<2^64:=by decide
                       omega)
theorem I7 (s:St P ι n slots done ls env a.tmps){x:Operand}{o:Opd}(h:aO P slots done x=some o):
  a.eval x=H8 ι (trO o ls env)∧(trO o ls env).lt n:=by
 cases x with
 | tmp t=>
  simp only [aO] at h
  cases hk:gW t done 0 with
  | some k=>
   simp only [hk,Option.some.injEq] at h;subst h
   obtain⟨v,h1,h2,h3⟩:=s.ls t k hk
   rw [BO,h1];exact⟨h3,h2⟩
  | none=>
   simp only [hk] at h
   cases hj:idxOf t slots 0 with
   | none=>simp [hj] at h
   | some j=>
    simp only [hj,Option.some.injEq] at h;subst h
    obtain⟨_,v,h1,h2,h3⟩:=s.env.val t j hj
    rw [JV j (by have:=(oD hj).2.1;have:=s.env.small;omega),h1];exact⟨h3,h2⟩
 | const v=>
  simp only [aO] at h
  cases hv:ofValue v with
  | none=>simp [hv] at h
  | some c=>
   simp only [hv,Option.some.injEq] at h;subst h
   obtain⟨h1,h2⟩:=iP ι v c hv
   exact⟨h1.symm,h2 n⟩
 | global g=>
  simp only [aO] at h
  split at h
  ·rename_i hg
   cases h
   obtain⟨h1,h2,h3⟩:=s.glob g hg
   refine⟨?_,?_⟩
   ·show Value.pointer (some ⟨g,0,none⟩)=.pointer (some (ι.at g 0))
    rw [Inj.BN h3,h1,h2]
   ·exact s.gn g hg
  ·cases h
 | func f=>
  simp only [aO,Option.some.injEq] at h;subst h
  exact⟨by simp [Act.eval,trO,O9,H8,gX,I4],by simp [trO,O9,j6.lt,aaG,ltL]⟩
theorem gJ (s:St P ι n slots done ls env a.tmps):∀{l:List Operand} {os:List Opd},jA P slots done l=some os→
  l.map a.eval=I4 ι (evs (kH os) ls env)∧ltL n (evs (kH os) ls env)
 | [],os,h=>by simp only [jA,Option.some.injEq] at h;subst h;simp [kH,evs,I4,ltL]
 | x::l,os,h=>by
  simp only [jA] at h
  cases hx:aO P slots done x with
  | none=>simp [hx] at h
  | some o=>
   cases hl:jA P slots done l with
   | none=>simp [hx,hl] at h
   | some r=>
    simp only [hx,hl,Option.some.injEq] at h;subst h
    obtain⟨h1,h2⟩:=I7 s hx
    obtain⟨h3,h4⟩:=gJ s hl
    refine⟨?_,?_⟩
    ·show a.eval x::l.map a.eval=H8 ι (trO o ls env)::I4 ι (evs (kH r) ls env)
     rw [h1,h3]
    ·exact⟨h2,h4⟩
end
section
variable {P:Program}{G:Mem}{w:World}
theorem run_underlying {t:TypeId}{d:TypeDesc}(h:P.underlying t=some d):(underlying t).run P w=.ok d w:=by simp [underlying,h]
theorem run_sizeOf {t:TypeId}{k:Nat}(h:iH P t=some k):(sizeOf t).run P w=.ok k w:=by
 simp only [iH,Option.map_eq_some_iff] at h
 obtain⟨i,h1,h2⟩:=h
 simp [sizeOf,typeInfo,h1,h2]
theorem oG {t:TypeId}{k:Nat}(h:fA P t=some k):∃i,(typeInfo t).run P w=.ok i w∧i.bytes=k:=by
 simp only [fA,Option.map_eq_some_iff] at h
 obtain⟨i,h1,h2⟩:=h
 exact⟨i,by simp [typeInfo,h1],h2⟩
theorem kX {t:TypeId}{b:Bool}(h:BF P t=some b):(isAgg t).run P w=.ok b w:=by
 simp only [BF] at h
 cases hu:P.underlying t with
 | none=>simp [hu] at h
 | some d=>
  simp only [isAgg,Sem.run_bind,run_underlying hu,Result.andThen_ok]
  cases d<;>simp_all
theorem vU {t:TypeId}{s:Option Nat}(h:partT P t=some s):(s=none∧BF P t=some false∧∃k,iH P t=some k)∨(∃k,s=some k∧BF P t=some true∧iH P t=some k):=by
 simp only [partT] at h
 split at h
 ·rename_i k h1 h2;cases h;exact .inr ⟨k,rfl,h1,h2⟩
 ·rename_i k h1 h2;cases h;exact .inl ⟨rfl,h1,k,h2⟩
 ·cases h
theorem bQ {t:TypeId}{z:List j6}(h:qg P t=some z)(ι:Inj):∃v,(zeroValue t).run P w=.ok v w∧v.cells=(I4 ι z).toArray∧∀n,ltL n z:=by
 simp only [qg] at h
 cases hi:P.info? t with
 | none=>simp [hi] at h
 | some i=>
  cases hz:i.zero with
  | none=>simp [hi,hz] at h
  | some v=>
   cases ha:ofValue v with
   | none=>simp [hi,hz,ha] at h
   | some a=>
    simp only [hi,hz,ha,Option.bind_some,Option.some.injEq] at h;subst h
    obtain⟨h1,h2⟩:=iP ι v a ha
    exact⟨v,by simp [zeroValue,typeInfo,hi,hz],by rw [← h1,jB],fun n=>sP (h2 n)⟩
theorem kY {t:TypeId}{z:j6}(h:zeroV P t=some z)(ι:Inj):(zeroValue t).run P w=.ok (H8 ι z) w∧∀n,z.lt n:=by
 simp only [zeroV] at h
 cases hi:P.info? t with
 | none=>simp [hi] at h
 | some i=>
  cases hz:i.zero with
  | none=>simp [hi,hz] at h
  | some v=>
   simp only [hi,hz,Option.bind_some] at h
   obtain⟨h1,h2⟩:=iP ι v z h
   exact⟨by simp [zeroValue,typeInfo,hi,hz,h1],h2⟩
end
theorem tQ (n:Int)(h:-9223372036854775808≤n∧n<9223372036854775808):IntKind.i64.wrap n=n:=by
 have e1:((2:Int)^IntKind.i64.bits)=18446744073709551616:=rfl
 have e2:((2:Int)^(IntKind.i64.bits-1))=9223372036854775808:=rfl
 unfold IntKind.wrap
 rw [e1,e2]
 show (if (true&&decide (n%18446744073709551616≥9223372036854775808))=true then n%18446744073709551616-18446744073709551616 else n%18446744073709551616)=n
 obtain⟨h1,h2⟩:=h
 by_cases hn:0≤n
 ·have:n%18446744073709551616=n:=Int.emod_eq_of_lt hn (by omega)
  rw [this,if_neg (by simp only [Bool.true_and,decide_eq_true_eq];omega)]
 ·have:n%18446744073709551616=n+18446744073709551616:=by
   rw [← Int.add_emod_right];exact Int.emod_eq_of_lt (by omega) (by omega)
  rw [this,if_pos (by simp only [Bool.true_and,decide_eq_true_eq];omega)]
  omega
theorem UC (n:Int):w64 n=IntKind.i64.wrap n:=by
 cases n with
 | ofNat m=>
  simp only [w64]
  cases h:Nat.blt m 9223372036854775808 with
  | true=>
   have:m<9223372036854775808:=(Eq.mp Nat.blt_eq h)
   have hw:=tQ (Int.ofNat m) ⟨by have:(0:Int)≤Int.ofNat m:=Int.natCast_nonneg m
                                 omega,by have:Int.ofNat m=(m:Int):=rfl
                                          omega⟩
   exact (bO _ _).trans hw.symm
  | false=>exact aY _ _
 | negSucc m=>
  simp only [w64]
  cases h:Nat.blt m 9223372036854775808 with
  | true=>
   have:m<9223372036854775808:=(Eq.mp Nat.blt_eq h)
   have e:=Int.negSucc_eq m
   have hw:=tQ (Int.negSucc m) ⟨by omega,by omega⟩
   exact (bO _ _).trans hw.symm
  | false=>exact aY _ _
theorem oH (k:IntKind)(n:Int):mU k n=k.wrap n:=by
 cases k<;>first | exact UC n | rfl
theorem jK (a b:Int):vo a b=(a==b):=by
 cases a with
 | ofNat a=>
  cases b with
  | ofNat b=>
   show Nat.beq a b=_
   by_cases h:a=b
   ·subst h;simp [Nat.beq_refl]
   ·rw [show Nat.beq a b=false from Bool.eq_false_iff.2 fun e=>h (Nat.eq_of_beq_eq_true e)]
    exact (beq_eq_false_iff_ne.2 (fun e=>h (Int.ofNat.inj e))).symm
  | negSucc b=>exact (beq_eq_false_iff_ne.2 (fun e=>by cases e)).symm
 | negSucc a=>
  cases b with
  | ofNat b=>exact (beq_eq_false_iff_ne.2 (fun e=>by cases e)).symm
  | negSucc b=>
   show Nat.beq a b=_
   by_cases h:a=b
   ·subst h;simp [Nat.beq_refl]
   ·rw [show Nat.beq a b=false from Bool.eq_false_iff.2 fun e=>h (Nat.eq_of_beq_eq_true e)]
    exact (beq_eq_false_iff_ne.2 (fun e=>h (Int.negSucc.inj e))).symm
theorem blt_eq (a b:Nat):Nat.blt a b=decide (a<b):=by
 by_cases h:a<b
 ·rw [decide_eq_true h];exact (Eq.mpr Nat.blt_eq h)
 ·rw [decide_eq_false h];exact Bool.eq_false_iff.2 fun e=>h (Eq.mp Nat.blt_eq e)
theorem iQ (a b:Int):tq a b=decide (a<b):=by
 cases a with
 | ofNat a=>
  cases b with
  | ofNat b=>exact (blt_eq a b).trans (decide_eq_decide.2 (by show a<b↔(a:Int)<(b:Int);omega))
  | negSucc b=>exact (decide_eq_false (by rw [Int.negSucc_eq];show ¬ (a:Int) < _;omega)).symm
 | negSucc a=>
  cases b with
  | ofNat b=>exact (decide_eq_true (by rw [Int.negSucc_eq];show _<(b:Int);omega)).symm
  | negSucc b=>exact (blt_eq b a).trans (decide_eq_decide.2 (by rw [Int.negSucc_eq,Int.negSucc_eq];omega))
theorem Gn (a b:IntKind):kEq a b=decide (a=b):=by cases a<;>cases b<;>rfl
theorem sQ:∀a b:List UInt8,strEq a b=(a==b)
 | [],[]=>rfl
 | [],_ :: _=>rfl
 | _ :: _,[]=>rfl
 | x::a,y::b=>by
  show bi (Nat.beq x.toNat y.toNat) (strEq a b) false=_
  rw [sQ a b]
  by_cases h:x=y
  ·subst h;simp [Nat.beq_refl]
  ·have:Nat.beq x.toNat y.toNat=false:=by
    rw [Bool.eq_false_iff];intro e
    exact h (UInt8.toNat_inj.1 (Nat.eq_of_beq_eq_true e))
   rw [this];simp [h]
theorem vV:∀a b:List UInt8,nJ a b=Op.bytesLess a b
 | _,[]=>by cases ‹List UInt8› <;> rfl
 | [],_ :: _=>rfl
 | x::a,y::b=>by simp [nJ,Op.bytesLess,vV a b]
end Go.AM
namespace Go.AM
open Go
theorem Inj.kZ (ι:Inj)(i o k:Nat):(ι.at i o).add k=ι.at i (o+k):=by
 unfold Addr.add Inj.at
 split
 ·rename_i h;subst h;rfl
 ·rename_i h
  have:¬ (o+k=0):=by omega
  simp [Nat.add_assoc,this]
  intro _ hk;exact absurd hk h
section
variable {β:Type}{v:j6}{r:β}
theorem fV {k:Nat→Nat→Option β}(h:pY v k=some r):∃i o,v=.ptr i o∧k i o=some r:=by
 cases v<;>first | exact⟨_,_,rfl,h⟩ | (simp [pY] at h)
theorem jf {k:IntKind→Int→Option β}(h:zB v k=some r):∃i n,v=.int i n∧k i n=some r:=by
 cases v<;>first | exact⟨_,_,rfl,h⟩ | (simp [zB] at h)
theorem mh {k:Bool→Option β}(h:nI v k=some r):∃b,v=.bool b∧k b=some r:=by
 cases v<;>first | exact⟨_,rfl,h⟩ | (simp [nI] at h)
theorem lu {k:List UInt8→Option β}(h:Di v k=some r):∃s,v=.str s∧k s=some r:=by
 cases v<;>first | exact⟨_,rfl,h⟩ | (simp [Di] at h)
theorem dS {k:List j6→Option β}(h:BI v k=some r):∃l,v=.agg l∧k l=some r:=by
 cases v<;>first | exact⟨_,rfl,h⟩ | (simp [BI] at h)
theorem NQ {k:List j6→Option β}(h:LG v k=some r):∃l,v=.tuple l∧k l=some r:=by
 cases v<;>first | exact⟨_,rfl,h⟩ | (simp [LG] at h)
theorem qh {nl:Option β}{k:Nat→Option β}(h:zC v nl k=some r):(v=.nilMap∧nl=some r)∨∃i,v=.map i∧k i=some r:=by
 cases v<;>first | exact .inl ⟨rfl,h⟩ | exact .inr ⟨_,rfl,h⟩ | (simp [zC] at h)
theorem qY {nl:Option β}{k u:Nat→Nat→Nat→Nat→Option β}(h:vSl v nl k u=some r):
  (v=.nilSlice∧nl=some r)∨(∃a b c d,v=.slice a b c d∧k a b c d=some r)∨∃a b c d,v=.sliceU a b c d∧u a b c d=some r:=by
 cases v<;>first | exact .inl ⟨rfl,h⟩ | exact .inr (.inl ⟨_,_,_,_,rfl,h⟩) | exact .inr (.inr ⟨_,_,_,_,rfl,h⟩) | (simp [vSl] at h)
theorem BP {k:Fn→List j6→List j6→Option β}(h:LH v k=some r):∃f a b,v=.func f a b∧k f a b=some r:=by
 cases v<;>first | exact⟨_,_,_,rfl,h⟩ | (simp [LH] at h)
theorem NR {n:Int}{k:Nat→Option β}(h:LJ n k=some r):∃m:Nat,n=(m:Int)∧k m=some r:=by
 cases n with
 | ofNat m=>exact⟨m,rfl,h⟩
 | negSucc m=>simp [LJ] at h
theorem dn {k:Nat→Option β}(h:qQ v k=some r):∃i,∃m:Nat,v=.int i (m:Int)∧k m=some r:=by
 obtain⟨i,n,rfl,h⟩:=jf h
 obtain⟨m,rfl,h⟩:=NR h
 exact⟨i,m,rfl,h⟩
theorem idx_eq {len:Nat}{k:Nat→Option β}(h:idx len v k=some r):∃i,∃m:Nat,v=.int i (m:Int)∧m<len∧k m=some r:=by
 obtain⟨i,m,rfl,h⟩:=dn h
 obtain⟨h1,h2⟩:=L8 h
 exact⟨i,m,rfl,Eq.mp Nat.blt_eq h1,h2⟩
end
section
variable {P:Program}{G:Mem}{ι:Inj}{n:Nm}
theorem mo {op:BinOp}{t:TypeId}{x y:Operand}{a b:Value}{w:World}
  (h:∀p q,a≠.agg p∨b≠.agg q) (h':a≠.nilIface∨b≠.nilIface∨vw x=true∨vw y=true):(eqGuard op t x y a b).run P w=.ok () w:=by
 unfold eqGuard
 cases op<;>simp<;>(
  split
  ·rename_i h1 h2
   rcases h' with h' | h' | h' | h'
   ·exact absurd rfl h'
   ·exact absurd rfl h'
   ·cases x<;>simp_all [vw]
   ·cases y<;>simp_all [vw]
  ·rename_i p q
   rcases h p q with h | h<;>exact absurd rfl h
  ·rfl)
theorem zU {op:BinOp}(h1:op≠.shl)(h2:op≠.shr){k:IntKind}{a b:Int}{v:j6}(h:JK op k a b=some v)(t:TypeId)(w:World):
  (binOp op t (.int k a) (.int k b)).run P w=.ok (H8 ι v) w∧v.lt n:=by
 cases op<;>first
  | exact absurd rfl h1
  | exact absurd rfl h2
  | (simp only [JK,fq,vg,FQ,iEq,iNe,iLt,iLe,iGt,iGe,abN,iOr,an8,FT,Option.some.injEq] at h
     subst h
     simp [binOp,Op.intArith,Op.intCmp,Op.intBits,H8,j6.lt,oH,jK,iQ,FP,bne]
     done)
  | (simp only [JK,Ny,LK,abM] at h
     have hb:b≠0:=by rintro rfl;simp at h
     split at h
     ·exact absurd rfl hb
     ·cases h
      simp [binOp,Op.intDiv,hb,H8,j6.lt,oH])
  | (simp only [JK,iLe,iGe,Option.some.injEq] at h
     subst h
     simp [binOp,Op.intCmp,H8,j6.lt,iQ]
     rw [Bool.eq_iff_iff];simp)
theorem mq (s:List UInt8):(⟨s.toArray⟩:ByteArray).size=s.length:=by simp [ByteArray.size]
theorem zV {op:BinOp}{a b:List UInt8}{v:j6}(h:JL op a b=some v)(t:TypeId)(w:World):
  (binOp op t (.string ⟨a.toArray⟩) (.string ⟨b.toArray⟩)).run P w=.ok (H8 ι v) w∧v.lt n:=by
 cases op<;>first
  | (simp only [JL,aM] at h;cases h;done)
  | (simp only [JL,sEq,sNe,sLt,sLe,sGt,sGe,Option.some.injEq] at h
     subst h
     simp [binOp,Op.stringOp,H8,j6.lt,sQ,vV]
     done)
  | (simp only [JL,aL] at h
     obtain⟨h1,h2⟩:=L8 h
     cases h2
     have h3:len' a+len' b<9223372036854775808:=Eq.mp Nat.blt_eq h1
     simp only [Q5] at h3
     simp [binOp,Op.stringOp,mq,H8,j6.lt]
     rw [if_neg (by omega)]
     congr 3)
theorem mD {op:BinOp}(h1:op≠.shl)(h2:op≠.shr){x y v:j6}(h:FC (JK op) (JL op) x y=some v)(t:TypeId)(w:World):
  (binOp op t (H8 ι x) (H8 ι y)).run P w=.ok (H8 ι v) w∧v.lt n:=by
 cases x<;>try (simp [FC] at h;done)
 ·rename_i k a
  simp only [FC] at h
  obtain⟨k',b,rfl,h⟩:=jf h
  obtain⟨h3,h4⟩:=L8 h
  rw [Gn,decide_eq_true_eq] at h3
  subst h3
  exact zU h1 h2 h4 t w
 ·rename_i a
  simp only [FC] at h
  obtain⟨b,rfl,h⟩:=lu h
  exact zV h t w
theorem Gp {op:BinOp}{x y v:j6}(h:FC (JK op) (JL op) x y=some v):
  (∃k a,x=.int k a)∨∃a,x=.str a:=by
 cases x<;>first | exact .inl ⟨_,_,rfl⟩ | exact .inr ⟨_,rfl⟩ | (simp [FC] at h;done)
theorem zW {x y v:j6}(h:aaz x y=some v)(t:TypeId)(w:World):(binOp .shl t (H8 ι x) (H8 ι y)).run P w=.ok (H8 ι v) w∧v.lt n:=by
 simp only [aaz] at h
 obtain⟨k,a,rfl,h⟩:=jf h
 obtain⟨i,m,rfl,h⟩:=dn h
 cases h
 simp [binOp,Op.shift,H8,j6.lt,oH,show ¬ ((m:Int)<0) from by omega]
theorem zX {x y v:j6}(h:aaA x y=some v)(t:TypeId)(w:World):(binOp .shr t (H8 ι x) (H8 ι y)).run P w=.ok (H8 ι v) w∧v.lt n:=by
 simp only [aaA] at h
 obtain⟨k,a,rfl,h⟩:=jf h
 obtain⟨i,m,rfl,h⟩:=dn h
 cases h
 simp [binOp,Op.shift,H8,j6.lt,show ¬ ((m:Int)<0) from by omega]
theorem tT (a b:Bool):zD a b=(a==b):=by cases a<;>cases b<;>rfl
theorem mE {x y:j6}{r:Bool}(h:bn x y=some r):∃k a b,x=.int k a∧y=.int k b∧r=(a==b):=by
 obtain⟨k,a,h0,h1⟩:=jf h
 obtain⟨k',b,h2,h3⟩:=jf h1
 obtain⟨h4,h5⟩:=L8 h3
 rw [Gn,decide_eq_true_eq] at h4
 subst h4;cases h5
 exact⟨_,_,_,h0,h2,jK _ _⟩
theorem eG {x y:j6}{r:Bool}(h:qR x y=some r):∃a b,x=.bool a∧y=.bool b∧r=(a==b):=by
 obtain⟨a,h0,h1⟩:=mh h
 obtain⟨b,h2,h3⟩:=mh h1
 cases h3
 exact⟨_,_,h0,h2,tT _ _⟩
theorem mF {x y:j6}{r:Bool}(h:eqStr x y=some r):∃a b,x=.str a∧y=.str b∧r=(a==b):=by
 obtain⟨a,h0,h1⟩:=lu h
 obtain⟨b,h2,h3⟩:=lu h1
 cases h3
 exact⟨_,_,h0,h2,sQ _ _⟩
end
end Go.AM
namespace Go.AM
open Go
section
variable {P:Program}{G:Mem}{ι:Inj}{n:Nm}
theorem gK (a b:List j6):bN [] a b=some true:=rfl
theorem eH (k:PK)(ks:List PK)(x y:j6)(a b:List j6):bN (k::ks) (x::a) (y::b)=ob (LM k x y) fun r=>bi r (bN ks a b) (some false):=rfl
theorem eO {k:PK}{ks:List PK}{a b:List j6}{r:Bool}(h:bN (k::ks) a b=some r):
  ∃x xs y ys s,a=x::xs∧b=y::ys∧LM k x y=some s∧bi s (bN ks xs ys) (some false)=some r:=by
 cases a with
 | nil=>cases h
 | cons x xs=>
  cases b with
  | nil=>cases h
  | cons y ys=>
   rw [eH] at h
   obtain⟨s,h1,h2⟩:=J6 h
   exact⟨x,xs,y,ys,s,rfl,rfl,h1,h2⟩
theorem Eu (ks ms:List PK):∀(a b:List j6) (r:Bool),bN (ks++ms) a b=some r→
  (bN ks a b=some false∧r=false)∨(bN ks a b=some true∧bN ms (a.drop ks.length) (b.drop ks.length)=some r):=by
 induction ks with
 | nil=>intro a b r h;right;exact⟨rfl,by simpa using h⟩
 | cons k ks ih=>
  intro a b r h
  obtain⟨x,xs,y,ys,s,rfl,rfl,h1,h2⟩:=eO h
  rw [eH,h1]
  cases s with
  | false=>left;cases h2;exact⟨rfl,rfl⟩
  | true=>simpa using ih xs ys r h2
theorem tV (ks:List PK):∀(m:Nat) (a b:List j6),ks.length≤m→bN ks (a.take m) (b.take m)=bN ks a b:=by
 induction ks with
 | nil=>intro m a b _;rfl
 | cons k ks ih=>
  intro m a b h
  obtain⟨m,rfl⟩:∃m',m=m'+1:=⟨m-1,by simp at h;omega⟩
  cases a with
  | nil=>rfl
  | cons x xs=>
   cases b with
   | nil=>rfl
   | cons y ys=>
    rw [List.take_succ_cons,List.take_succ_cons,eH,eH,ih m xs ys (by simpa using h)]
def mkV (ι:Inj)(agg:Bool)(l:List j6):Value:=if agg then .agg (I4 ι l).toArray else H8 ι (l.headD .undef)
theorem zY (ι:Inj)(l:List j6)(o k:Nat):((I4 ι l).toArray.extract o (o+k))=(I4 ι ((l.drop o).take k)).toArray:=by
 rw [List.extract_toArray]
 congr 1
 rw [aH,aH,List.extract_eq_take_drop,Nat.add_sub_cancel_left]
 simp [List.map_take,List.map_drop]
theorem oI {t:TypeId}{agg:Bool}{k:Nat}(ha:BF P t=some agg)(hs:iH P t=some k)(l:List j6)(o:Nat)(hl:agg=false→o<l.length∧k=1)(w:World):
  (part t (I4 ι l).toArray o).run P w=.ok (mkV ι agg ((l.drop o).take k)) w:=by
 simp only [part,Sem.run_bind,kX ha,Result.andThen_ok]
 cases agg with
 | true=>
  simp only [if_true,Sem.run_bind,run_sizeOf hs,Result.andThen_ok,Sem.run_pure,zY];rfl
 | false=>
  obtain⟨h,rfl⟩:=hl rfl
  have:(I4 ι l).toArray[o]?=some (H8 ι l[o]):=by simp [ah,List.getElem?_eq_getElem h]
  simp only [Bool.false_eq_true,if_false,this,mkV,Sem.run_pure]
  congr 2
  rw [List.drop_eq_getElem_cons h];rfl
theorem xk {t:TypeId}{k:IntKind}(h:P.underlying t=some (.int k)):BF P t=some false:=by simp [BF,h]
theorem Gq {t:TypeId}(h:P.underlying t=some .bool):BF P t=some false:=by simp [BF,h]
theorem BQ {t:TypeId}(h:P.underlying t=some .string):BF P t=some false:=by simp [BF,h]
theorem jL {t:TypeId}{fs:Array Field}(h:P.underlying t=some (.struct fs)):BF P t=some true:=by simp [BF,h]
theorem nL {t:TypeId}{k:IntKind}(h:P.underlying t=some (.int k)){x y:j6}{r:Bool}(he:bn x y=some r)(d:Nat)(w:World):
  (Op.equalIn (d+1) t (H8 ι x) (H8 ι y)).run P w=.ok r w:=by
 obtain⟨k,a,b,rfl,rfl,rfl⟩:=mE he
 simp [Op.equalIn,run_underlying h,H8]
theorem qZ {t:TypeId}(h:P.underlying t=some .bool){x y:j6}{r:Bool}(he:qR x y=some r)(d:Nat)(w:World):
  (Op.equalIn (d+1) t (H8 ι x) (H8 ι y)).run P w=.ok r w:=by
 obtain⟨a,b,rfl,rfl,rfl⟩:=eG he
 simp [Op.equalIn,run_underlying h,H8]
theorem jM (a b:List UInt8):((⟨a.toArray⟩:ByteArray)==⟨b.toArray⟩)=(a==b):=by
 show ByteArray.beq _ _=_
 simp [ByteArray.beq]
theorem tX {t:TypeId}(h:P.underlying t=some .string){x y:j6}{r:Bool}(he:eqStr x y=some r)(d:Nat)(w:World):
  (Op.equalIn (d+1) t (H8 ι x) (H8 ι y)).run P w=.ok r w:=by
 obtain⟨a,b,rfl,rfl,rfl⟩:=mF he
 simp [Op.equalIn,run_underlying h,H8,jM]
def fH (d:Nat)(X Y:Array Value):List Field→Sem Bool
 | []=>pure true
 | f::l=>do
  if f.name≠ "_" then
   if !(← Op.equalIn d f.type (← part f.type X f.offset) (← part f.type Y f.offset)) then return false
  fH d X Y l
theorem zZ (d:Nat)(X Y:Array Value)(l:List Field):
  (do
   let s ← forIn l ((none,()):Option Bool×Unit) fun f _=>
    if f.name≠ "_" then do
     let a ← part f.type X f.offset
     let b ← part f.type Y f.offset
     let e ← Op.equalIn d f.type a b
     if (!e)=true then pure (ForInStep.done (some false,())) else pure (ForInStep.yield (none,()))
    else pure (ForInStep.yield (none,()))
   match s.fst with
   | some r=>pure r
   | none=>pure true:Sem Bool)=fH d X Y l:=by
 induction l with
 | nil=>simp [fH]
 | cons f l ih=>
  rw [List.forIn_cons]
  simp only [fH]
  rw [← ih]
  by_cases hf:f.name= "_"
  ·simp [hf]
  ·simp only [ne_eq,hf,not_false_eq_true,if_true,bind_assoc]
   congr 1;funext a
   congr 1;funext b
   congr 1;funext e
   cases e<;>simp
theorem vE {t:TypeId}{fs:Array Field}(h:P.underlying t=some (.struct fs))(hs:P.stoodInHeld t=false)(X Y:Array Value)(d:Nat)(w:World):
  (Op.equalIn (d+1) t (.agg X) (.agg Y)).run P w=(fH d X Y fs.toList).run P w:=by
 simp only [Op.equalIn,Sem.run_bind,run_underlying h,Result.andThen_ok,run_program,hs]
 rw [← Array.forIn_toList,← zZ]
 simp
 congr 1
 funext a w'
 obtain⟨o,u⟩:=a
 cases o<;>rfl
theorem Aa:∀(d:Nat) (t:TypeId) (ks:List PK),dQ P d t=some ks→∃agg,BF P t=some agg∧iH P t=some ks.length∧(agg=false→ks.length=1)∧
  ∀D,d≤D→∀(a b:List j6) (r:Bool),bN ks a b=some r→∀w,(Op.equalIn D t (mkV ι agg a) (mkV ι agg b)).run P w=.ok r w:=by
 intro d
 induction d with
 | zero=>intro t ks h;simp [dQ] at h
 | succ d ih=>
  intro t ks h
  simp only [dQ] at h
  cases hu:P.underlying t with
  | none=>simp [hu] at h
  | some u=>
   rw [hu] at h
   cases u<;>try (simp at h;done)
   ·
    simp only at h
    split at h
    ·rename_i hz;cases h
     refine⟨false,Gq hu,hz,fun _=>rfl,fun D hD a b r he w=>?_⟩
     obtain⟨x,xs,y,ys,s,rfl,rfl,h1,h2⟩:=eO he
     obtain⟨D,rfl⟩:∃D',D=D'+1:=⟨D-1,by omega⟩
     have:s=r:=by cases s<;>simpa [gK] using h2
     subst this
     exact qZ hu h1 D w
    ·cases h
   ·simp only at h
    split at h
    ·rename_i hz;cases h
     refine⟨false,xk hu,hz,fun _=>rfl,fun D hD a b r he w=>?_⟩
     obtain⟨x,xs,y,ys,s,rfl,rfl,h1,h2⟩:=eO he
     obtain⟨D,rfl⟩:∃D',D=D'+1:=⟨D-1,by omega⟩
     have:s=r:=by cases s<;>simpa [gK] using h2
     subst this
     exact nL hu h1 D w
    ·cases h
   ·simp only at h
    split at h
    ·rename_i hz;cases h
     refine⟨false,BQ hu,hz,fun _=>rfl,fun D hD a b r he w=>?_⟩
     obtain⟨x,xs,y,ys,s,rfl,rfl,h1,h2⟩:=eO he
     obtain⟨D,rfl⟩:∃D',D=D'+1:=⟨D-1,by omega⟩
     have:s=r:=by cases s<;>simpa [gK] using h2
     subst this
     exact tX hu h1 D w
    ·cases h
   ·rename_i fs
    simp only at h
    cases hf:kV (dQ P d) fs.toList 0 with
    | none=>simp [hf] at h
    | some ks'=>
     simp only [hf] at h
     split at h
     ·rename_i hz
      cases h
      refine⟨true,jL hu,hz.2,(fun h=>by cases h),fun D hD a b r he w=>?_⟩
      obtain⟨D,rfl⟩:∃D',D=D'+1:=⟨D-1,by omega⟩
      simp only [mkV,if_true]
      rw [vE hu hz.1]
      have key:∀(l:List Field) (off:Nat) (ks₁:List PK) (pre:List PK),ks=pre++ks₁→pre.length=off→kV (dQ P d) l off=some ks₁→
        ∀r,bN ks₁ (a.drop off) (b.drop off)=some r→(fH D (I4 ι a).toArray (I4 ι b).toArray l).run P w=.ok r w:=by
       intro l
       induction l with
       | nil=>
        intro off ks₁ pre _ _ hl r hr
        simp only [kV,Option.some.injEq] at hl;subst hl
        rw [gK] at hr;cases hr
        simp [fH]
       | cons f l ihl=>
        intro off ks₁ pre hks hpre hl r hr
        simp only [kV] at hl
        split at hl
        ·rename_i hn
         cases hk:dQ P d f.type with
         | none=>simp [hk] at hl
         | some kf=>
          simp only [hk] at hl
          cases hrest:kV (dQ P d) l (off+kf.length) with
          | none=>simp [hrest] at hl
          | some kr=>
           simp only [hrest,Option.some.injEq] at hl;subst hl
           obtain⟨agg,ha,hsz,h1,hE⟩:=ih f.type kf hk
           have hne:∀(c:List j6),(a=c∨b=c)→agg=false→off<c.length∧kf.length=1:=by
            intro c hc hagg
            have h1':=h1 hagg
            refine⟨?_,h1'⟩
            cases kf with
            | nil=>simp at h1'
            | cons k0 kf=>
             obtain⟨x,xs,y,ys,s,e1,e2,_,_⟩:=eO hr
             rcases hc with rfl | rfl
             ·have:=congrArg List.length e1;simp at this;omega
             ·have:=congrArg List.length e2;simp at this;omega
           simp only [fH,if_pos hn.1,Sem.run_bind]
           rw [hn.2,oI ha hsz _ _ (hne a (.inl rfl)),Result.andThen_ok,oI ha hsz _ _ (hne b (.inr rfl)),Result.andThen_ok]
           rcases Eu kf kr _ _ r hr with⟨e1,rfl⟩ | ⟨e1,e2⟩
           ·rw [hE D (by omega) _ _ _ ((tV kf _ _ _ (Nat.le_refl _)).trans e1) w];simp
           ·rw [hE D (by omega) _ _ _ ((tV kf _ _ _ (Nat.le_refl _)).trans e1) w]
            simp only [Result.andThen_ok,Bool.not_true,Bool.false_eq_true,if_false]
            refine ihl (off+kf.length) kr (pre++kf) (by rw [hks];simp) (by simp [hpre]) hrest r ?_
            simpa [List.drop_drop] using e2
        ·cases hl
      exact key fs.toList 0 ks [] rfl rfl hf r (by simpa using he)
     ·cases h
end
end Go.AM
namespace Go.AM
open Go
section
variable {P:Program}{G:Mem}{ι:Inj}{n:Nm}
theorem Mi {t:TypeId}{x y:j6}{r:Bool}(hx:(∀k a,x≠.int k a)∧∀s,x≠.str s)(h:∀w,(Op.equal t (H8 ι x) (H8 ι y)).run P w=.ok r w)(w:World):
  (binOp .eql t (H8 ι x) (H8 ι y)).run P w=.ok (.bool r) w∧(binOp .neq t (H8 ι x) (H8 ι y)).run P w=.ok (.bool (!r)) w:=by
 have e1:binOp .eql t (H8 ι x) (H8 ι y)=(do pure (.bool (← Op.equal t (H8 ι x) (H8 ι y)))):=by
  cases x<;>simp_all [H8,binOp]
 have e2:binOp .neq t (H8 ι x) (H8 ι y)=(do pure (.bool (!(← Op.equal t (H8 ι x) (H8 ι y))))):=by
  cases x<;>simp_all [H8,binOp]
 rw [e1,e2]
 simp [h]
theorem BR {t e:TypeId}(hu:P.underlying t=some (.pointer e)){x y:j6}{r:Bool}(he:FU x y=some r)(d:Nat)(w:World):
  (Op.equalIn (d+1) t (H8 ι x) (H8 ι y)).run P w=.ok r w:=by
 cases x<;>cases y<;>simp only [FU,Option.some.injEq,reduceCtorEq] at he<;>subst he<;>simp [Op.equalIn,run_underlying hu,H8]
theorem xq {t e:TypeId}(hu:P.underlying t=some (.slice e)){x y:j6}{r:Bool}(he:jd x y=some r)(d:Nat)(w:World):
  (Op.equalIn (d+1) t (H8 ι x) (H8 ι y)).run P w=.ok r w:=by
 cases x<;>cases y<;>simp only [jd,Option.some.injEq,reduceCtorEq] at he<;>subst he<;>simp [Op.equalIn,run_underlying hu,H8]
theorem BS {t k e:TypeId}(hu:P.underlying t=some (.map k e)){x y:j6}{r:Bool}(he:FV x y=some r)(d:Nat)(w:World):
  (Op.equalIn (d+1) t (H8 ι x) (H8 ι y)).run P w=.ok r w:=by
 cases x<;>cases y<;>simp only [FV,Option.some.injEq,reduceCtorEq] at he<;>subst he<;>simp [Op.equalIn,run_underlying hu,H8]
theorem Ab {t:TypeId}{a b:Array TypeId}{c:Bool}(hu:P.underlying t=some (.func a b c)){x y:j6}{r:Bool}(he:zG x y=some r)(d:Nat)(w:World):
  (Op.equalIn (d+1) t (H8 ι x) (H8 ι y)).run P w=.ok r w:=by
 cases x<;>cases y<;>simp only [zG,Option.some.injEq,reduceCtorEq] at he<;>subst he<;>simp [Op.equalIn,run_underlying hu,H8]
theorem xu {t:TypeId}{ms:Array (String×TypeId)}(hu:P.underlying t=some (.interface ms)){x y:j6}{r:Bool}(he:gT x y=some r)(d:Nat)(w:World):
  (Op.equalIn (d+1) t (H8 ι x) (H8 ι y)).run P w=.ok r w:=by
 cases x<;>cases y<;>simp only [gT,Option.some.injEq,reduceCtorEq] at he<;>subst he<;>simp [Op.equalIn,run_underlying hu,H8]
theorem Ac {c:Bool}{t:TypeId}{k:EqK}(hk:eqT P c t=some k){x y:j6}{r:Bool}(he:zx k x y=some r)(d:Nat)(hd:10≤d+1)(w:World):
  (Op.equalIn (d+1) t (H8 ι x) (H8 ι y)).run P w=.ok r w:=by
 simp only [eqT] at hk
 cases hu:P.underlying t with
 | none=>simp [hu] at hk
 | some u=>
  rw [hu] at hk
  cases u<;>try (simp at hk;done)
  ·simp only [Option.some.injEq] at hk;subst hk;exact qZ hu he d w
  ·simp only [Option.some.injEq] at hk;subst hk;exact nL hu he d w
  ·simp only [Option.some.injEq] at hk;subst hk;exact tX hu he d w
  ·simp only [Option.some.injEq] at hk;subst hk;exact BR hu he d w
  ·simp only [Option.some.injEq] at hk;subst hk;exact xq hu he d w
  ·simp only [Option.some.injEq] at hk;subst hk;exact BS hu he d w
  ·rename_i fs
   simp only at hk
   cases hf:dQ P 10 t with
   | none=>simp [hf] at hk
   | some ks=>
    simp only [hf] at hk
    split at hk
    ·cases hk
     obtain⟨l,rfl,h1⟩:=dS he
     obtain⟨m,rfl,h2⟩:=dS h1
     obtain⟨agg,ha,hsz,h3,h4⟩:=Aa (P:=P) (ι:=ι) 10 t ks hf
     rw [jL hu] at ha;cases ha
     have:=h4 (d+1) hd l m r h2 w
     simpa [mkV,H8] using this
    ·cases hk
  ·simp only [Option.some.injEq] at hk;subst hk;exact Ab hu he d w
  ·simp only at hk
   split at hk
   ·cases hk;exact xu hu he d w
   ·cases hk
theorem tY {c:Bool}{t:TypeId}{k:EqK}(hk:eqT P c t=some k){x y:j6}{r:Bool}(he:zx k x y=some r)(w:World):
  (Op.equal t (H8 ι x) (H8 ι y)).run P w=.ok r w:=Ac hk he 9999 (by omega) w
theorem JW {c:Bool}{t:TypeId}{k:EqK}(hk:eqT P c t=some k)(hki:k≠.prim .i)(hks:k≠.prim .s){x y:j6}{r:Bool}(he:zx k x y=some r)(w:World):
  (binOp .eql t (H8 ι x) (H8 ι y)).run P w=.ok (.bool r) w∧(binOp .neq t (H8 ι x) (H8 ι y)).run P w=.ok (.bool (!r)) w:=by
 refine Mi ?_ (fun w=>tY hk he w) w
 cases k<;>first
  | (rename_i p;cases p<;>first
    | exact absurd rfl hki
    | exact absurd rfl hks
    | (obtain⟨a,b,rfl,rfl,rfl⟩:=eG he;simp))
  | (obtain⟨l,rfl,_⟩:=dS he;simp)
  | (cases x<;>cases y<;>simp [zx,FU,jd,FV,zG,gT] at he ⊢)
def lC (d:Nat)(e:TypeId)(X Y:Array Value):List Nat→Sem Bool
 | []=>pure true
 | i::l=>do
  if !(← Op.equalIn d e (← part e X (i*1)) (← part e Y (i*1))) then return false
  lC d e X Y l
theorem Ev (d:Nat)(e:TypeId)(X Y:Array Value)(l:List Nat):
  (do
   let s ← forIn l ((none,()):Option Bool×Unit) fun i _=>do
       let a ← part e X (i*1)
       let b ← part e Y (i*1)
       let r ← Op.equalIn d e a b
       if (!r)=true then pure (ForInStep.done (some false,())) else pure (ForInStep.yield (none,()))
   match s.fst with
   | some r=>pure r
   | none=>pure true:Sem Bool)=lC d e X Y l:=by
 induction l with
 | nil=>simp [lC]
 | cons f l ih=>
  rw [List.forIn_cons]
  simp only [lC]
  rw [← ih]
  simp only [bind_assoc]
  congr 1;funext a
  congr 1;funext b
  congr 1;funext r
  cases r<;>simp
theorem xw {t e:TypeId}{k:Nat}(h:P.underlying t=some (.array k e))(hs:iH P e=some 1)(X Y:Array Value)(d:Nat)(w:World):
  (Op.equalIn (d+1) t (.agg X) (.agg Y)).run P w=(lC d e X Y (List.range k)).run P w:=by
 simp only [Op.equalIn,Sem.run_bind,run_underlying h,Result.andThen_ok,run_sizeOf hs]
 rw [Std.Legacy.Range.forIn_eq_forIn_range']
 rw [← Ev,List.range_eq_range']
 simp
 congr 1
 funext a w'
 obtain⟨o,u⟩:=a
 cases o<;>rfl
theorem Gr {e:TypeId}{kk:IntKind}(hu:P.underlying e=some (.int kk))(hs:iH P e=some 1)(a b:List j6)(d:Nat)(w:World):∀(j off:Nat) (r:Bool),
  bN (List.replicate j .i) (a.drop off) (b.drop off)=some r→(lC (d+1) e (I4 ι a).toArray (I4 ι b).toArray (List.range' off j)).run P w=.ok r w:=by
 intro j
 induction j with
 | zero=>
  intro off r h
  rw [List.replicate_zero,gK] at h
  cases h
  simp [lC]
 | succ j ih=>
  intro off r h
  rw [List.replicate_succ] at h
  obtain⟨x,xs,y,ys,s,h1,h2,h3,h4⟩:=eO h
  have la:off<a.length:=by have:=congrArg List.length h1;simp at this;omega
  have lb:off<b.length:=by have:=congrArg List.length h2;simp at this;omega
  have ha:=oI (P:=P) (ι:=ι) (xk hu) hs a off (fun _=>⟨la,rfl⟩) w
  have hb:=oI (P:=P) (ι:=ι) (xk hu) hs b off (fun _=>⟨lb,rfl⟩) w
  rw [h1] at ha
  rw [h2] at hb
  have ha:(part e (I4 ι a).toArray off).run P w=.ok (H8 ι x) w:=ha
  have hb:(part e (I4 ι b).toArray off).run P w=.ok (H8 ι y) w:=hb
  have he:=nL (ι:=ι) hu h3 d w
  rw [List.range'_succ]
  simp only [lC,Nat.mul_one,Sem.run_bind,ha,hb,he,Result.andThen_ok]
  cases s with
  | false=>
   have h4:some false=some r:=h4
   cases h4
   simp
  | true=>
   have h4:bN (List.replicate j .i) xs ys=some r:=h4
   simp only [Bool.not_true,Bool.false_eq_true,if_false]
   refine ih (off+1) r ?_
   have e1:a.drop (off+1)=xs:=by rw [← List.drop_drop,h1];rfl
   have e2:b.drop (off+1)=ys:=by rw [← List.drop_drop,h2];rfl
   rw [e1,e2];exact h4
theorem tZ {t:TypeId}{k:EqK}(h:aaE P t=some k):∃n e kk,P.underlying t=some (.array n e)∧P.underlying e=some (.int kk)∧iH P e=some 1∧P.eqGuardType P.depth t=false∧k=.flat (List.replicate n .i):=by
 unfold aaE at h
 split at h
 ·rename_i n e hu
  split at h
  ·rename_i kk he
   split at h
   ·rename_i hc
    cases h
    exact⟨n,e,kk,hu,he,hc.1,hc.2,rfl⟩
   ·cases h
  ·cases h
 ·cases h
theorem qj {c:Bool}{t:TypeId}{k:EqK}(h:Uy P c t=some k):eqT P c t=some k∨aaE P t=some k:=by
 unfold Uy at h
 split at h
 ·rename_i k' hk;cases h;exact .inl hk
 ·exact .inr h
theorem Gs {c:Bool}{t:TypeId}{k:EqK}(hk:Uy P c t=some k)(hki:k≠.prim .i)(hks:k≠.prim .s){x y:j6}{r:Bool}(he:zx k x y=some r)(w:World):
  (binOp .eql t (H8 ι x) (H8 ι y)).run P w=.ok (.bool r) w∧(binOp .neq t (H8 ι x) (H8 ι y)).run P w=.ok (.bool (!r)) w:=by
 rcases qj hk with hk | hk
 ·exact JW hk hki hks he w
 ·obtain⟨n,e,kk,hu,hue,hs,_,rfl⟩:=tZ hk
  obtain⟨l,rfl,h1⟩:=dS he
  obtain⟨m,rfl,h2⟩:=dS h1
  refine Mi (by simp) (fun w=>?_) w
  have:Op.equal t (H8 ι (.agg l)) (H8 ι (.agg m))=Op.equalIn (9999+1) t (.agg (I4 ι l).toArray) (.agg (I4 ι m).toArray):=by simp [H8,Op.equal,Op.maxDepth]
  rw [this,xw hu hs,List.range_eq_range']
  exact Gr hue hs l m 9998 w n 0 r (by simpa using h2)
end
end Go.AM
namespace Go.AM
open Go
section
variable {P:Program}{G:Mem}{ι:Inj}{n:Nm}{slots:List Nat}{done:List (Option Nat)}{ls:List j6}{env:T j6}{a:Act}
def Gives (P:Program)(ρ:Operand→Value)(op:Op)(v:Value):Prop:=
 ∀(o:Oper),o.op=op→∀w,(execOp ρ o).run P w=.ok (.value v) w
theorem gZ {op:BinOp}(h1:op≠.eql)(h2:op≠.neq){t:TypeId}{x y:Operand}{u v:Value}{w:World}:(eqGuard op t x y u v).run P w=.ok () w:=by
 unfold eqGuard
 cases op<;>first | exact absurd rfl h1 | exact absurd rfl h2 | simp
theorem BU {op:BinOp}{t:TypeId}{x y:Operand}{u v:Array Value}{w:World}(h:P.eqGuardType P.depth t=false):(eqGuard op t x y (.agg u) (.agg v)).run P w=.ok () w:=by
 unfold eqGuard
 cases op<;>simp [h]
theorem lD {op:BinOp}{t:TypeId}{x y:Operand}{yt:TypeId}{ρ:Operand→Value}{v:Value}
  (hg:∀w,(eqGuard op t x y (ρ x) (ρ y)).run P w=.ok () w) (h:∀w,(binOp op t (ρ x) (ρ y)).run P w=.ok v w):Gives P ρ (.binOp op t x y yt) v:=by
 intro o ho w
 simp [execOp,ho,hg,h]
theorem bind_eq {α β:Type}{o:Option α}{f:α→Option β}{b:β}(h:(o >>= f)=some b):∃a,o=some a∧f a=some b:=by
 cases o with
 | none=>cases h
 | some a=>exact⟨a,rfl,h⟩
theorem JX (p:Nat×Nat×OF)(ps:List (Nat×Nat×OF))(ls:List j6)(env:T j6)(cs:List j6):
  lay (p::ps) ls env cs=bi (Nat.beq (len' (p.2.2 ls env).cells) p.2.1) (bi (Nat.ble (Nat.add p.1 p.2.1) (len' cs)) (lay ps ls env (kS p.1 (p.2.2 ls env).cells cs)) none) none:=rfl
theorem sD (vs:List Value):∀(A:Array Value) (off i:Nat),off+i+vs.length≤A.size→
  ((vs.zipIdx i).foldl (fun cs (p:Value×Nat)=>cs.setIfInBounds (off+p.2) p.1) A).toList=A.toList.take (off+i)++(vs++A.toList.drop (off+i+vs.length)):=by
 induction vs with
 | nil=>intro A off i h;simp
 | cons v vs ih=>
  intro A off i h
  simp only [List.zipIdx_cons,List.foldl_cons,List.length_cons] at h ⊢
  rw [ih _ _ _ (by simp;omega)]
  simp only [Array.toList_setIfInBounds]
  have hlt:off+i<A.toList.length:=by simp;omega
  rw [List.take_set,show off+(i+1)=off+i+1 from by omega]
  rw [List.drop_set_of_lt (by omega)]
  rw [List.take_succ_eq_append_getElem hlt,List.set_append_right _ _ (by simp;omega)]
  simp [show min (off+i) A.size=off+i from by simp at hlt;omega]
  congr 1;omega
theorem uf (s:St P ι n slots done ls env a.tmps)(place:Nat→Option (Nat×Nat)):∀(parts:List (Nat×Operand)) (ps:List (Nat×Nat×Opd)),
  qV P slots done place parts=some ps→∀(cs r:List j6),ltL n cs→lay (Ej ps) ls env cs=some r→
   Instr.fill place (I4 ι cs).toArray (parts.map fun p=>(p.1,a.eval p.2))=some (I4 ι r).toArray∧ltL n r∧r.length=cs.length:=by
 intro parts
 induction parts with
 | nil=>
  intro ps h cs r hcs hr
  simp only [qV,Option.some.injEq] at h;subst h
  cases hr
  exact⟨rfl,hcs,rfl⟩
 | cons p parts ih=>
  intro ps h cs r hcs hr
  simp only [qV] at h
  split at h
  ·rename_i off size x rest hp hx hrest
   cases h
   simp only [Ej,JX] at hr
   obtain⟨h1,hr⟩:=L8 hr
   obtain⟨h2,hr⟩:=L8 hr
   obtain⟨e1,e2⟩:=I7 s hx
   simp only [Q5] at h1 h2
   have h1':=Nat.eq_of_beq_eq_true h1
   have h2':off+size≤cs.length:=Nat.le_of_ble_eq_true h2
   have hlen:off+((trO x ls env).cells).length≤cs.length:=by omega
   have hov:=qX off ((trO x ls env).cells) cs hlen
   obtain⟨g1,g2,g3⟩:=ih rest hrest _ r (by
    rw [bG] at hcs ⊢
    intro v hv
    rw [iO off _ cs (by omega)] at hv
    simp only [List.mem_append] at hv
    rcases hv with hv | hv | hv
    ·exact hcs v (List.mem_of_mem_take hv)
    ·exact bG.1 (sP e2) v hv
    ·exact hcs v (List.mem_of_mem_drop hv)) hr
   refine⟨?_,g2,by rw [g3,hov]⟩
   simp only [List.map_cons,Instr.fill,hp]
   rw [e1,jB]
   simp only [List.size_toArray,U9]
   rw [if_neg (by simp [h1'];omega)]
   rw [← g1]
   congr 1
   have hf:=sD (I4 ι (trO x ls env).cells) (I4 ι cs).toArray off 0 (by simp;omega)
   apply Array.toList_inj.1
   rw [← Array.foldl_toList]
   simp only [Array.toList_zipIdx]
   refine hf.trans ?_
   simp only [aH,iO off _ cs (show off≤cs.length by omega),List.map_append,List.map_take,List.map_drop,List.length_map,Nat.add_zero]
  ·cases h
theorem xA:∀(fs:List Field) (pl:List (Nat×Nat)),placesOf P fs=some pl→∀w,
  ((fs.mapM fun f=>do pure (f.offset,← sizeOf f.type):Sem (List (Nat×Nat)))).run P w=.ok pl w:=by
 intro fs
 induction fs with
 | nil=>intro pl h w;simp only [placesOf,Option.some.injEq] at h;subst h;simp
 | cons f fs ih=>
  intro pl h w
  simp only [placesOf] at h
  split at h
  ·rename_i s r h1 h2
   cases h
   have ih':=ih r h2 w
   simp only [bind_pure_comp] at ih'
   simp [List.mapM_cons,run_sizeOf h1,ih']
  ·cases h
theorem BX (s:St P ι n slots done ls env a.tmps){t:TypeId}{parts:Array (Nat×Operand)}{o:AOp}(h:tJ P slots done t parts.toList=some o):
  ∃zero ps,o=.p (.build zero ps)∧∀v,trP (.build zero ps) ls env=some v→v.lt n∧Gives P a.eval (.build t parts) (H8 ι v):=by
 simp only [tJ] at h
 have harr:(parts.map fun p=>(p.1,a.eval p.2)).toList=parts.toList.map fun p=>(p.1,a.eval p.2):=by simp
 split at h
 ·rename_i zero fields hz hu
  split at h
  ·rename_i pl hpl
   split at h
   ·rename_i ps hps
    cases h
    refine⟨zero,ps,rfl,fun v hv=>?_⟩
    obtain⟨r,h1,h2⟩:=J6 hv
    cases h2
    obtain⟨z,hz1,hz2,hz3⟩:=bQ (P:=P) (w:=default) hz ι
    obtain⟨g1,g2,_⟩:=uf s _ parts.toList ps hps zero r (hz3 n) h1
    refine⟨g2,fun o ho w=>?_⟩
    obtain⟨z,hz1,hz2,hz3⟩:=bQ (P:=P) (w:=w) hz ι
    simp only [execOp,ho,Instr.build,Sem.run_bind,hz1,Result.andThen_ok,run_underlying hu,hz2]
    have hm:=xA (P:=P) fields.toList pl hpl w
    have hmm:(fields.mapM fun f=>do pure (f.offset,← sizeOf f.type):Sem (Array (Nat×Nat)))=List.toArray <$> (fields.toList.mapM fun f=>do pure (f.offset,← sizeOf f.type):Sem (List (Nat×Nat))):=by
     rw [← List.mapM_toArray]
    rw [hmm]
    simp only [Sem.run_map,hm,Result.andThen_ok,harr]
    have hfun:(fun x:Nat=>pl.toArray[x]?)=fun i:Nat=>pl[i]?:=by funext i;simp
    rw [hfun,g1]
    simp [H8]
   ·cases h
  ·cases h
 ·rename_i zero k elem hz hu
  split at h
  ·rename_i sz hsz
   split at h
   ·rename_i ps hps
    cases h
    refine⟨zero,ps,rfl,fun v hv=>?_⟩
    obtain⟨r,h1,h2⟩:=J6 hv
    cases h2
    obtain⟨z,hz1,hz2,hz3⟩:=bQ (P:=P) (w:=default) hz ι
    obtain⟨g1,g2,_⟩:=uf s _ parts.toList ps hps zero r (hz3 n) h1
    refine⟨g2,fun o ho w=>?_⟩
    obtain⟨z,hz1,hz2,hz3⟩:=bQ (P:=P) (w:=w) hz ι
    simp only [execOp,ho,Instr.build,Sem.run_bind,hz1,Result.andThen_ok,run_underlying hu,hz2,run_sizeOf hsz,harr]
    rw [g1]
    simp [H8]
   ·cases h
  ·cases h
 ·cases h
end
end Go.AM
namespace Go.AM
open Go
section
variable {P:Program}{G:Mem}{ι:Inj}{n:Nm}{slots:List Nat}{done:List (Option Nat)}{ls:List j6}{env:T j6}{a:Act}
theorem ru {α:Type}(p q:Nat)(x y:α):bi (Nat.beq p q) x y=if p=q then x else y:=by
 by_cases h:p=q
 ·subst h;rw [Nat.beq_refl,if_pos rfl];rfl
 ·rw [show Nat.beq p q=false from Bool.eq_false_iff.2 fun e=>h (Nat.eq_of_beq_eq_true e),if_neg h];rfl
theorem O8 {l:List j6}{v:j6}(h:ltL n l)(hv:v∈l):v.lt n:=bG.1 h v hv
noncomputable def xB (sz:Option Nat)(l:List j6)(o:Nat):Option j6:=match sz with
 | none=>l[o]?
 | some k=>ob (takeN k (l.drop o)) fun r=>some (.agg r)
theorem vW {t:TypeId}{sz:Option Nat}(ht:partT P t=some sz){l:List j6}(hl:ltL n l)(o:Nat){v:j6}
  (hv:xB sz l o=some v):
  v.lt n∧∀w,(part t (I4 ι l).toArray o).run P w=.ok (H8 ι v) w:=by
 rcases vU ht with⟨rfl,ha,k,hk⟩ | ⟨k,rfl,ha,hk⟩
 ·simp only [xB] at hv
  refine⟨O8 hl (List.mem_of_getElem? hv),fun w=>?_⟩
  simp [part,kX ha,ah,hv]
 ·simp only [xB] at hv
  obtain⟨r,h1,h2⟩:=J6 hv
  cases h2
  obtain⟨rfl,_⟩:=gI _ _ _ h1
  refine⟨bG.2 fun v hv=>O8 hl (List.mem_of_mem_drop (List.mem_of_mem_take hv)),fun w=>?_⟩
  simp [part,kX ha,run_sizeOf hk,H8,aH,List.map_take,List.map_drop]
theorem Ad (s:St P ι n slots done ls env a.tmps){x:Option Operand}{o:Option Opd}(h:cOpt P slots done x=some o):
  (x=none∧o=none)∨∃y z,x=some y∧o=some z∧a.eval y=H8 ι (trO z ls env):=by
 cases x with
 | none=>simp only [cOpt,Option.some.injEq] at h;exact .inl ⟨rfl,h.symm⟩
 | some y=>
  simp only [cOpt] at h
  cases hy:aO P slots done y with
  | none=>simp [hy] at h
  | some z=>
   simp only [hy,Option.some.injEq] at h
   exact .inr ⟨y,z,rfl,h.symm,(I7 s hy).1⟩
theorem lF (s:St P ι n slots done ls env a.tmps){lo hi:Option Operand}{lo' hi':Option Opd}(hlo:cOpt P slots done lo=some lo')(hhi:cOpt P slots done hi=some hi')
  {β:Type} {k:Nat→Nat→Option β} {d:Nat} {r:β} (h:dN (qc lo') 0 ls env (fun l=>dN (qc hi') d ls env fun h=>k l h)=some r):
  ∃l h,k l h=some r∧(hi=none→h=d)∧(lo=none→l=0)∧
   (∀(isSlice:Bool) (len cap:Nat) (w:World),len=d→l≤h→h≤cap→(Instr.sliceBounds isSlice len cap (lo.map a.eval) (hi.map a.eval) none).run P w=.ok (l,h,cap) w):=by
 rcases Ad s hlo with⟨rfl,rfl⟩ | ⟨y,z,rfl,rfl,hy⟩<;>rcases Ad s hhi with⟨rfl,rfl⟩ | ⟨y',z',rfl,rfl,hy'⟩
 ·exact⟨0,d,h,fun _=>rfl,fun _=>rfl,fun is len cap w he _ _=>by subst he;simp [Instr.sliceBounds]⟩
 ·obtain⟨i,m,h1,h2⟩:=dn h
  refine⟨0,m,h2,(by simp),(by simp),fun is len cap w he h1' h2'=>?_⟩
  have h1:trO z' ls env=.int i (m:Int):=h1
  simp only [Option.map_some,Option.map_none,hy',h1,H8,Instr.sliceBounds,Instr.sliceBound,asIntOf]
  cases is<;>simp [h2']
 ·obtain⟨i,m,h1,h2⟩:=dn h
  refine⟨m,d,h2,(by simp),(by simp),fun is len cap w he h1' h2'=>?_⟩
  have h1:trO z ls env=.int i (m:Int):=h1
  subst he
  simp only [Option.map_some,Option.map_none,hy,h1,H8,Instr.sliceBounds,Instr.sliceBound,asIntOf]
  simp [h1']
 ·obtain⟨i,m,h1,h2⟩:=dn h
  obtain⟨i',m',h3,h4⟩:=dn h2
  refine⟨m,m',h4,(by simp),(by simp),fun is len cap w he h1' h2'=>?_⟩
  have h1:trO z ls env=.int i (m:Int):=h1
  have h3:trO z' ls env=.int i' (m':Int):=h3
  simp only [Option.map_some,hy,h1,hy',h3,H8,Instr.sliceBounds,Instr.sliceBound,asIntOf]
  cases is<;>simp [h1',h2']
theorem oJ {t e:TypeId}{es:Nat}(hu:P.underlying t=some (.slice e))(hs:iH P e=some es)(ad:Addr)(len cap:Nat)(k:IntKind)(i:Nat)(hi:i<len)(w:World):
  (Instr.indexAt t (.slice (some ad) len cap) (.int k (i:Int))).run P w=.ok (.pointer (some (ad.add (i*es)))) w:=by
 simp [Instr.indexAt,asIntOf,run_underlying hu,run_sizeOf hs,hi]
theorem xC {t e:TypeId}{es len:Nat}(hu:P.underlying t=some (.array len e))(hs:iH P e=some es)(ad:Addr)(k:IntKind)(i:Nat)(hi:i<len)(w:World):
  (Instr.indexAt t (.pointer (some ad)) (.int k (i:Int))).run P w=.ok (.pointer (some (ad.add (i*es)))) w:=by
 simp [Instr.indexAt,asIntOf,run_underlying hu,run_sizeOf hs,hi,Instr.sureAddr]
theorem Dr (mx:Bool):∀(ys:List j6) (x v:j6),ltL n ys→x.lt n→FY mx ys x=some v→v.lt n∧
  ∀w,((I4 ι ys).foldlM (if mx then Builtin.max2 else Builtin.min2) (H8 ι x)).run P w=.ok (H8 ι v) w:=by
 intro ys
 induction ys with
 | nil=>intro x v _ hx h;cases h;exact⟨hx,fun w=>by simp [I4]⟩
 | cons y ys ih=>
  intro x v hys hx h
  have h:ob (mm2 mx x y) (fun z=>FY mx ys z)=some v:=h
  obtain⟨z,h1,h2⟩:=J6 h
  simp only [mm2] at h1
  obtain⟨k,p,e1,h1⟩:=jf h1
  obtain⟨k',q,e2,h1⟩:=jf h1
  cases h1
  obtain⟨g1,g2⟩:=ih _ v hys.2 (by simp [j6.lt]) h2
  refine⟨g1,fun w=>?_⟩
  subst e1;subst e2
  simp only [I4,List.foldlM_cons,Sem.run_bind,H8]
  have:((if mx=true then Builtin.max2 else Builtin.min2) (.int k p) (.int k' q)).run P w=.ok (.int k (bi mx (bi (tq p q) q p) (bi (tq q p) q p))) w:=by
   cases mx
   ·simp only [Bool.false_eq_true,if_false,Builtin.min2,Sem.run_pure,aY,iQ]
    by_cases hlt:q<p
    ·simp [hlt]
    ·simp [hlt]
   ·simp only [if_true,Builtin.max2,Sem.run_pure,bO,iQ]
    by_cases hlt:p<q
    ·simp [hlt]
    ·simp [hlt]
  rw [this]
  exact g2 w
end
end Go.AM
namespace Go.AM
open Go
section
variable {P:Program}{G:Mem}{ι:Inj}{n:Nm}{slots:List Nat}{done:List (Option Nat)}{ls:List j6}{env:T j6}{a:Act}
theorem aR {x y:POp}(h:(pure (AOp.p x):Option AOp)=some (.p y)):x=y:=by cases h;rfl
set_option maxHeartbeats 1000000 in
theorem mG (s:St P ι n slots done ls env a.tmps){op:Op}{po:POp}(h:cOp P slots done op=some (.p po)){v:j6}(hv:trP po ls env=some v):
  v.lt n∧Gives P a.eval op (H8 ι v):=by
 cases op with
 | move x=>
  obtain⟨x',hx,h⟩:=bind_eq h
  obtain rfl:=aR h
  cases hv
  obtain⟨e1,e2⟩:=I7 s hx
  exact⟨e2,fun o ho w=>by simp [execOp,ho,e1]⟩
 | assign x=>
  obtain⟨x',hx,h⟩:=bind_eq h
  obtain rfl:=aR h
  cases hv
  obtain⟨e1,e2⟩:=I7 s hx
  exact⟨e2,fun o ho w=>by simp [execOp,ho,e1]⟩
 | pick c x y=>
  obtain⟨c',hc,h⟩:=bind_eq h
  obtain⟨x',hx,h⟩:=bind_eq h
  obtain⟨y',hy,h⟩:=bind_eq h
  obtain rfl:=aR h
  obtain⟨b,h1,h2⟩:=mh hv
  have h1:trO c' ls env=.bool b:=h1
  obtain⟨e1,_⟩:=I7 s hc
  obtain⟨e2,e2'⟩:=I7 s hx
  obtain⟨e3,e3'⟩:=I7 s hy
  rw [h1] at e1
  cases b with
  | true=>cases h2;exact⟨e2',fun o ho w=>by simp [execOp,ho,e1,e2,H8,asBool]⟩
  | false=>cases h2;exact⟨e3',fun o ho w=>by simp [execOp,ho,e1,e3,H8,asBool]⟩
 | build t parts=>
  obtain⟨zero,ps,e,hb⟩:=BX s (show tJ P slots done t parts.toList=some (.p po) from h)
  cases e
  exact hb v hv
 | nilCheck x=>
  obtain⟨x',hx,h⟩:=bind_eq h
  obtain rfl:=aR h
  obtain⟨e1,e2⟩:=I7 s hx
  have hv:vO (trO x' ls env)=some v:=hv
  generalize trO x' ls env=u at *
  have:v=u∧∀o:Oper,o.op=.nilCheck x→∀w,(execOp a.eval o).run P w=.ok (.value (H8 ι u)) w:=by
   cases u<;>simp only [vO,Option.some.injEq,reduceCtorEq] at hv<;>try (refine⟨hv.symm,fun o ho w=>?_⟩;simp [execOp,ho,e1,H8];done)
   rename_i fn p q
   cases fn<;>simp only [Option.some.injEq,reduceCtorEq] at hv
   refine⟨hv.symm,fun o ho w=>?_⟩
   simp [execOp,ho,e1,H8,gX]
  obtain⟨rfl,h2⟩:=this
  exact⟨e2,h2⟩
 | binOp op t x y yt=>
  simp only [cOp] at h
  by_cases h1:op=.eql∨op=.neq
  ·have hh:∃k x' y',Uy P (vw x||vw y) t=some k∧aO P slots done x=some x'∧aO P slots done y=some y'∧
     ((k=.prim .i∨k=.prim .s)∧po=.ib op x' y'∨(k≠.prim .i∧k≠.prim .s)∧po=.eq (decide (op=.neq)) k x' y'):=by
    rcases h1 with rfl | rfl <;>
    ·simp only at h
     obtain⟨k,hk,h⟩:=bind_eq h
     cases k with
     | prim p=>
      cases p <;>
      ·simp only at h
       obtain⟨x',hx,h⟩:=bind_eq h
       obtain⟨y',hy,h⟩:=bind_eq h
       have:=aR h
       exact⟨_,x',y',hk,hx,hy,by simp [this]⟩
     | _=>
      simp only at h
      obtain⟨x',hx,h⟩:=bind_eq h
      obtain⟨y',hy,h⟩:=bind_eq h
      have:=aR h
      exact⟨_,x',y',hk,hx,hy,by simp [this]⟩
   obtain⟨k,x',y',hk,hx,hy,hh⟩:=hh
   obtain⟨e1,_⟩:=I7 s hx
   obtain⟨e2,_⟩:=I7 s hy
   rcases hh with⟨_,rfl⟩ | ⟨⟨hk1,hk2⟩,rfl⟩
   ·have hs1:op≠.shl:=by rcases h1 with rfl | rfl<;>simp
    have hs2:op≠.shr:=by rcases h1 with rfl | rfl<;>simp
    have hv:FC (JK op) (JL op) (trO x' ls env) (trO y' ls env)=some v:=by
     rcases h1 with rfl | rfl<;>exact hv
    refine⟨(mD (P:=P) (ι:=ι) hs1 hs2 hv t default).2,lD (fun w=>?_) (fun w=>by rw [e1,e2];exact (mD (n:=n) hs1 hs2 hv t w).1)⟩
    rw [e1,e2]
    rcases Gp hv with⟨k,p,hf⟩ | ⟨p,hf⟩<;>rw [hf]<;>exact mo (by simp [H8]) (by simp [H8])
   ·have hv:∃r,zx k (trO x' ls env) (trO y' ls env)=some r∧v=.bool (if op=.neq then !r else r):=by
     rcases h1 with rfl | rfl <;>
     ·obtain⟨r,h1,h2⟩:=J6 hv
      cases h2
      exact⟨r,h1,rfl⟩
    obtain⟨r,hr,rfl⟩:=hv
    refine⟨by simp [j6.lt],lD (fun w=>?_) (fun w=>?_)⟩
    ·rw [e1,e2]
     cases k with
     | prim p=>
      cases p with
      | b=>obtain⟨p,q,h3,h4,_⟩:=eG hr;rw [h3,h4];exact mo (by simp [H8]) (by simp [H8])
      | i=>exact absurd rfl hk1
      | s=>exact absurd rfl hk2
     | flat ks=>
      obtain⟨l,h3,h4⟩:=dS hr
      obtain⟨m,h5,h6⟩:=dS h4
      rw [h3,h5]
      refine BU ?_
      rcases (qj hk).symm with hk | hk
      ·obtain⟨_,_,_,_,_,_,h7,_⟩:=tZ hk
       exact h7
      simp only [eqT] at hk
      split at hk<;>first | (simp at hk;done) | skip
      ·split at hk
       ·split at hk
        ·assumption
        ·cases hk
       ·cases hk
     | iface=>
      have hc:vw x=true∨vw y=true:=by
       rcases (qj hk).symm with hk | hk
       ·obtain⟨_,_,_,_,_,_,_,h7⟩:=tZ hk
        cases h7
       simp only [eqT] at hk
       split at hk<;>first | (simp at hk;done) | skip
       ·split at hk
        ·split at hk<;>simp at hk
        ·simp at hk
       ·split at hk
        ·rename_i hc;simpa using hc
        ·simp at hk
      exact mo (fun p q=>by cases hx:trO x' ls env<;>simp_all [zx,gT,H8]) (hc.elim (fun h=>.inr (.inr (.inl h))) (fun h=>.inr (.inr (.inr h))))
     | _=>
      refine mo (fun p q=>?_) (.inl ?_)<;>cases hx:trO x' ls env<;>simp_all [zx,FU,jd,FV,zG,H8]
    ·rw [e1,e2]
     have:=Gs hk hk1 hk2 (ι:=ι) hr w
     rcases h1 with rfl | rfl
     ·simpa [H8] using this.1
     ·simpa [H8] using this.2
  ·have hne:op≠.eql∧op≠.neq:=⟨fun e=>h1 (.inl e),fun e=>h1 (.inr e)⟩
   have hh:∃x' y',aO P slots done x=some x'∧aO P slots done y=some y'∧po=.ib op x' y':=by
    cases op<;>first
     | exact absurd rfl hne.1
     | exact absurd rfl hne.2
     | (simp only at h
        obtain⟨x',hx,h⟩:=bind_eq h
        obtain⟨y',hy,h⟩:=bind_eq h
        exact⟨x',y',hx,hy,(aR h).symm⟩)
   obtain⟨x',y',hx,hy,rfl⟩:=hh
   obtain⟨e1,_⟩:=I7 s hx
   obtain⟨e2,_⟩:=I7 s hy
   by_cases hs1:op=.shl
   ·subst hs1
    refine⟨(zW (P:=P) (ι:=ι) hv t default).2,lD (fun w=>gZ (by simp) (by simp)) (fun w=>by rw [e1,e2];exact (zW (n:=n) hv t w).1)⟩
   ·by_cases hs2:op=.shr
    ·subst hs2
     refine⟨(zX (P:=P) (ι:=ι) hv t default).2,lD (fun w=>gZ (by simp) (by simp)) (fun w=>by rw [e1,e2];exact (zX (n:=n) hv t w).1)⟩
    ·have hv:FC (JK op) (JL op) (trO x' ls env) (trO y' ls env)=some v:=by
      cases op<;>first | exact absurd rfl hs1 | exact absurd rfl hs2 | exact hv
     exact⟨(mD (P:=P) (ι:=ι) hs1 hs2 hv t default).2,lD (fun w=>gZ hne.1 hne.2) (fun w=>by rw [e1,e2];exact (mD (n:=n) hs1 hs2 hv t w).1)⟩
 | unOp op t x=>
  have hh:∃x',aO P slots done x=some x'∧(op=.not∧po=.not x'∨op=.neg∧po=.neg x'):=by
   simp only [cOp] at h
   cases op<;>simp only at h<;>first
    | (cases h;done)
    | (obtain⟨x',hx,h⟩:=bind_eq h
       exact⟨x',hx,by simp [aR h]⟩)
  obtain⟨x',hx,hh⟩:=hh
  obtain⟨e1,_⟩:=I7 s hx
  rcases hh with⟨rfl,rfl⟩ | ⟨rfl,rfl⟩
  ·obtain⟨b,h1,h2⟩:=mh hv
   have h1:trO x' ls env=.bool b:=h1
   cases h2
   exact⟨by simp [j6.lt],fun o ho w=>by simp [execOp,ho,e1,h1,H8,Op.unary]⟩
  ·obtain⟨k,m,h1,h2⟩:=jf hv
   have h1:trO x' ls env=.int k m:=h1
   cases h2
   exact⟨by simp [j6.lt],fun o ho w=>by simp [execOp,ho,e1,h1,H8,Op.unary,Op.intArith,oH]⟩
 | convert src dst x=>
  simp only [cOp] at h
  obtain⟨us,hus,h⟩:=bind_eq h
  obtain⟨ud,hud,h⟩:=bind_eq h
  have hh:∃x',aO P slots done x=some x'∧∃j k,us=.int j∧ud=.int k∧po=.conv k x':=by
   split at h
   ·obtain⟨x',hx,h⟩:=bind_eq h
    exact⟨x',hx,_,_,rfl,rfl,(aR h).symm⟩
   ·obtain⟨ue,_,h⟩:=bind_eq h
    split at h
    ·obtain⟨x',hx,h⟩:=bind_eq h;cases h
    ·cases h
   ·obtain⟨ue,_,h⟩:=bind_eq h
    split at h
    ·obtain⟨x',hx,h⟩:=bind_eq h;cases h
    ·cases h
   ·cases h
  obtain⟨x',hx,j,k,rfl,rfl,rfl⟩:=hh
  obtain⟨e1,e2⟩:=I7 s hx
  obtain⟨k',m,h1,h2⟩:=jf hv
  have h1:trO x' ls env=.int k' m:=h1
  cases h2
  exact⟨by simp [j6.lt],fun o ho w=>by simp [execOp,ho,convert,run_underlying hus,run_underlying hud,e1,h1,H8,Conv.intToInt,oH]⟩
 | makeInterface t x=>
  simp only [cOp] at h
  obtain⟨u,hu,h⟩:=bind_eq h
  have hh:∃x',aO P slots done x=some x'∧po=.mkIface t x'∧∀ms,u≠.interface ms:=by
   split at h
   ·cases h
   ·rename_i hne
    obtain⟨x',hx,h⟩:=bind_eq h
    exact⟨x',hx,(aR h).symm,fun ms e=>hne ms e⟩
  obtain⟨x',hx,rfl,hne⟩:=hh
  obtain⟨e1,e2⟩:=I7 s hx
  cases hv
  refine⟨by simpa [j6.lt] using e2,fun o ho w=>?_⟩
  simp only [execOp,ho,Instr.makeInterface,Sem.run_bind,run_underlying hu,Result.andThen_ok,e1]
  cases u<;>first | exact absurd rfl (hne _) | simp [H8]
 | typeAssert x xt t ok=>
  simp only [cOp] at h
  obtain⟨u,hu,h⟩:=bind_eq h
  have hh:∃z x',zeroV P t=some z∧aO P slots done x=some x'∧po=.assert t z ok x'∧∀ms,u≠.interface ms:=by
   split at h
   ·cases h
   ·rename_i hne
    obtain⟨z,hz,h⟩:=bind_eq h
    obtain⟨x',hx,h⟩:=bind_eq h
    exact⟨z,x',hz,hx,(aR h).symm,fun ms e=>hne ms e⟩
  obtain⟨z,x',hz,hx,rfl,hne⟩:=hh
  obtain⟨e1,e2⟩:=I7 s hx
  have hv1:FZ t z ok (trO x' ls env)=some v:=hv
  clear hv
  generalize trO x' ls env=y at *
  cases y with
  | nilIface=>
   cases ok with
   | false=>cases hv1
   | true=>
    have hv1:some (j6.tuple [z,.bool false])=some v:=hv1
    cases hv1
    refine⟨⟨(kY (w:=default) hz ι).2 n,trivial,trivial⟩,fun o ho w=>?_⟩
    have hz1:=(kY (w:=w) hz ι).1
    simp only [execOp,ho,Instr.typeAssert,Sem.run_bind,run_underlying hu,Result.andThen_ok,e1,H8]
    cases u<;>first | exact absurd rfl (hne _) | simp [hz1,I4,H8]
  | iface t' y=>
   have hv1:bi (Nat.beq t' t) (some (bi ok (.tuple [y,.bool true]) y)) (bi ok (some (.tuple [z,.bool false])) none)=some v:=hv1
   cases hb:Nat.beq t' t with
   | true=>
    have he:=Nat.eq_of_beq_eq_true hb
    rw [hb] at hv1
    have hv1:some (bi ok (.tuple [y,.bool true]) y)=some v:=hv1
    cases ok with
    | false=>
     have hv1:some y=some v:=hv1
     cases hv1
     refine⟨e2,fun o ho w=>?_⟩
     simp only [execOp,ho,Instr.typeAssert,Sem.run_bind,run_underlying hu,Result.andThen_ok,e1,H8]
     cases u<;>first | exact absurd rfl (hne _) | simp [he]
    | true=>
     have hv1:some (j6.tuple [y,.bool true])=some v:=hv1
     cases hv1
     refine⟨⟨e2,trivial,trivial⟩,fun o ho w=>?_⟩
     simp only [execOp,ho,Instr.typeAssert,Sem.run_bind,run_underlying hu,Result.andThen_ok,e1,H8]
     cases u<;>first | exact absurd rfl (hne _) | simp [he,I4,H8]
   | false=>
    have he:t'≠t:=Nat.ne_of_beq_eq_false hb
    rw [hb] at hv1
    cases ok with
    | false=>cases hv1
    | true=>
     have hv1:some (j6.tuple [z,.bool false])=some v:=hv1
     cases hv1
     refine⟨⟨(kY (w:=default) hz ι).2 n,trivial,trivial⟩,fun o ho w=>?_⟩
     have hz1:=(kY (w:=w) hz ι).1
     simp only [execOp,ho,Instr.typeAssert,Sem.run_bind,run_underlying hu,Result.andThen_ok,e1,H8]
     cases u<;>first | exact absurd rfl (hne _) | simp [hz1,he,I4,H8]
  | _=>cases hv1
 | makeFunc fn f c=>
  simp only [cOp] at h
  have hh:∃g f' c',fn=.func g∧jA P slots done f.toList=some f'∧jA P slots done c.toList=some c'∧po=.mkFunc (.func g) f' c':=by
   split at h
   ·obtain⟨f',hf,h⟩:=bind_eq h
    obtain⟨c',hc,h⟩:=bind_eq h
    exact⟨_,f',c',rfl,hf,hc,(aR h).symm⟩
   ·cases h
  obtain⟨g,f',c',rfl,hf,hc,rfl⟩:=hh
  cases hv
  obtain⟨e1,e2⟩:=gJ s hf
  obtain⟨e3,e4⟩:=gJ s hc
  refine⟨⟨trivial,e2,e4⟩,fun o ho w=>?_⟩
  have q1:f.map a.eval=(I4 ι (evs (kH f') ls env)).toArray:=by apply Array.toList_inj.1;rw [Array.toList_map];exact e1
  have q2:c.map a.eval=(I4 ι (evs (kH c') ls env)).toArray:=by apply Array.toList_inj.1;rw [Array.toList_map];exact e3
  simp [execOp,ho,Instr.makeFunc,q1,q2,H8,gX]
 | slice t x lo hi mx=>
  simp only [cOp] at h
  cases mx with
  | some _=>simp at h
  | none=>
  simp only at h
  obtain⟨u,hu,h⟩:=bind_eq h
  split at h
  ·obtain⟨x',hx,h⟩:=bind_eq h
   obtain⟨lo',hlo,h⟩:=bind_eq h
   obtain⟨hi',hhi,h⟩:=bind_eq h
   obtain rfl:=aR h
   obtain⟨e1,e2⟩:=I7 s hx
   obtain⟨str,h1,h2⟩:=lu hv
   have h1:trO x' ls env=.str str:=h1
   obtain⟨l,h,h3,_,_,h4⟩:=lF s hlo hhi h2
   obtain⟨g1,h3⟩:=L8 h3
   obtain⟨g2,h3⟩:=L8 h3
   obtain⟨r,h5,h6⟩:=J6 h3
   cases h6
   have g1:=Nat.le_of_ble_eq_true g1
   have g2:=Nat.le_of_ble_eq_true g2
   simp only [Q5,jJ] at *
   obtain⟨rfl,_⟩:=gI _ _ _ h5
   refine⟨by simp [j6.lt],fun o ho w=>?_⟩
   simp only [execOp,ho,Instr.sliceAt,Sem.run_bind,run_underlying hu,Result.andThen_ok,Instr.slice,e1,h1,H8]
   simp only [Option.map_none,Option.isSome_none,Bool.false_eq_true,if_false,Sem.run_bind,mq,Sem.run_pure,Result.andThen_ok]
   rw [h4 false str.length str.length w rfl g1 g2]
   simp only [Result.andThen_ok,Sem.run_pure]
   congr 3
   apply ByteArray.ext
   simp [ByteArray.data_extract,List.extract_eq_take_drop]
  ·obtain⟨es,_,h⟩:=bind_eq h
   obtain⟨x',hx,h⟩:=bind_eq h
   obtain⟨lo',hlo,h⟩:=bind_eq h
   obtain⟨hi',hhi,h⟩:=bind_eq h
   cases h
  ·rename_i n' e'
   obtain⟨es,hes,h⟩:=bind_eq h
   obtain⟨x',hx,h⟩:=bind_eq h
   obtain⟨lo',hlo,h⟩:=bind_eq h
   obtain⟨hi',hhi,h⟩:=bind_eq h
   obtain rfl:=aR h
   obtain⟨e1,e2⟩:=I7 s hx
   obtain⟨i,o,h1,h2⟩:=fV hv
   have h1:trO x' ls env=.ptr i o:=h1
   rw [h1] at e1 e2
   obtain⟨l,h,h3,_,_,h4⟩:=lF s hlo hhi h2
   obtain⟨g1,h3⟩:=L8 h3
   obtain⟨g2,h3⟩:=L8 h3
   cases h3
   have g1:=Nat.le_of_ble_eq_true g1
   have g2:=Nat.le_of_ble_eq_true g2
   refine⟨e2,fun op ho w=>?_⟩
   simp only [execOp,ho,Instr.sliceAt,Sem.run_bind,run_underlying hu,Result.andThen_ok,e1,H8,Instr.sureAddr,Sem.run_pure,Option.map_none]
   rw [h4 false _ _ w rfl g1 g2]
   simp only [Result.andThen_ok,Sem.run_bind,run_sizeOf hes,Sem.run_pure]
   rw [ru,Inj.kZ]
   by_cases hl:n'=l
   ·rw [if_pos hl,if_pos hl.symm];rfl
   ·rw [if_neg hl,if_neg (fun e=>hl e.symm)];rfl
  ·cases h
 | fieldAddr t x f=>
  simp only [cOp] at h
  obtain⟨u,hu,h⟩:=bind_eq h
  have hh:∃fs fd x' sz,u=.struct fs∧fs[f]?=some fd∧iH P fd.type=some sz∧sz≠0∧aO P slots done x=some x'∧po=.fAddr fd.offset x':=by
   split at h
   ·obtain⟨fd,hf,h⟩:=bind_eq h
    obtain⟨sz,hsz,h⟩:=bind_eq h
    split at h
    ·cases h
    ·obtain⟨x',hx,h⟩:=bind_eq h
     exact⟨_,fd,x',sz,rfl,hf,hsz,by assumption,hx,(aR h).symm⟩
   ·cases h
  obtain⟨fs,fd,x',sz,rfl,hf,hsz,hne,hx,rfl⟩:=hh
  obtain⟨e1,e2⟩:=I7 s hx
  obtain⟨i,o,h1,h2⟩:=fV hv
  have h1:trO x' ls env=.ptr i o:=h1
  cases h2
  rw [h1] at e1 e2
  refine⟨e2,fun op ho w=>?_⟩
  simp only [execOp,ho,Instr.fieldAt,Sem.run_bind,run_underlying hu,Result.andThen_ok,hf,e1,H8,Instr.sureAddr,Sem.run_pure,fieldPlace,run_sizeOf hsz,if_neg hne,Inj.kZ]
  rfl
 | field t x f=>
  simp only [cOp] at h
  obtain⟨u,hu,h⟩:=bind_eq h
  have hh:∃fs fd x' sz,u=.struct fs∧fs[f]?=some fd∧partT P fd.type=some sz∧aO P slots done x=some x'∧po=.fld fd.offset sz x':=by
   split at h
   ·obtain⟨fd,hf,h⟩:=bind_eq h
    obtain⟨sz,hsz,h⟩:=bind_eq h
    obtain⟨x',hx,h⟩:=bind_eq h
    exact⟨_,fd,x',sz,rfl,hf,hsz,hx,(aR h).symm⟩
   ·cases h
  obtain⟨fs,fd,x',sz,rfl,hf,hsz,hx,rfl⟩:=hh
  obtain⟨e1,e2⟩:=I7 s hx
  have hv':∃l,trO x' ls env=.agg l∧xB sz l fd.offset=some v:=by
   cases sz with
   | none=>obtain⟨l,h1,h2⟩:=dS hv;exact⟨l,h1,by simpa [xB] using h2⟩
   | some k=>obtain⟨l,h1,h2⟩:=dS hv;exact⟨l,h1,by simpa [xB] using h2⟩
  obtain⟨l,h1,h2⟩:=hv'
  rw [h1] at e1 e2
  obtain⟨g1,g2⟩:=vW (ι:=ι) hsz (show ltL n l from e2) fd.offset h2
  refine⟨g1,fun op ho w=>?_⟩
  simp [execOp,ho,Instr.field,run_underlying hu,hf,e1,H8,asAgg,g2]
 | indexAddr t x i=>
  simp only [cOp] at h
  obtain⟨u,hu,h⟩:=bind_eq h
  split at h
  ·obtain⟨es,hes,h⟩:=bind_eq h
   obtain⟨x',hx,h⟩:=bind_eq h
   obtain⟨i',hi,h⟩:=bind_eq h
   obtain rfl:=aR h
   obtain⟨e1,e2⟩:=I7 s hx
   obtain⟨e3,_⟩:=I7 s hi
   rcases qY hv with⟨_,h2⟩ | ⟨id,off,len,cap,h1,h2⟩ | ⟨id,off,len,es',h1,h2⟩
   ·cases h2
   ·obtain⟨k,m,h3,hlt,h4⟩:=idx_eq h2
    cases h4
    have h1:trO x' ls env=.slice id off len cap:=h1
    have h3:trO i' ls env=.int k (m:Int):=h3
    rw [h1] at e1 e2
    refine⟨e2,fun op ho w=>?_⟩
    simp only [execOp,ho,Sem.run_bind,e1,e3,h3,H8,oJ hu hes _ _ _ _ _ hlt,Inj.kZ,Result.andThen_ok,Sem.run_pure]
    rfl
   ·obtain⟨k,m,h3,hlt,h4⟩:=idx_eq h2
    cases h4
    have h1:trO x' ls env=.sliceU id off len es':=h1
    have h3:trO i' ls env=.int k (m:Int):=h3
    rw [h1] at e1 e2
    refine⟨e2.1,fun op ho w=>?_⟩
    simp only [execOp,ho,Sem.run_bind,e1,e3,h3,H8,oJ hu hes _ _ _ _ _ hlt,Inj.kZ,Result.andThen_ok,Sem.run_pure]
    rfl
  ·obtain⟨es,hes,h⟩:=bind_eq h
   obtain⟨x',hx,h⟩:=bind_eq h
   obtain⟨i',hi,h⟩:=bind_eq h
   obtain rfl:=aR h
   obtain⟨e1,e2⟩:=I7 s hx
   obtain⟨e3,_⟩:=I7 s hi
   obtain⟨id,off,h1,h2⟩:=fV hv
   obtain⟨k,m,h3,hlt,h4⟩:=idx_eq h2
   cases h4
   have h1:trO x' ls env=.ptr id off:=h1
   have h3:trO i' ls env=.int k (m:Int):=h3
   rw [h1] at e1 e2
   refine⟨e2,fun op ho w=>?_⟩
   simp only [execOp,ho,Sem.run_bind,e1,e3,h3,H8,xC hu hes _ _ _ hlt,Inj.kZ,Result.andThen_ok,Sem.run_pure]
   rfl
  ·cases h
 | index t x i=>
  simp only [cOp] at h
  obtain⟨u,hu,h⟩:=bind_eq h
  split at h
  ·obtain⟨x',hx,h⟩:=bind_eq h
   obtain⟨i',hi,h⟩:=bind_eq h
   obtain rfl:=aR h
   obtain⟨e1,e2⟩:=I7 s hx
   obtain⟨e3,_⟩:=I7 s hi
   obtain⟨str,h1,h2⟩:=lu hv
   obtain⟨k,m,h3,h4⟩:=dn h2
   obtain⟨b,h5,h6⟩:=J6 h4
   cases h6
   have h1:trO x' ls env=.str str:=h1
   have h3:trO i' ls env=.int k (m:Int):=h3
   rw [je] at h5
   refine⟨by simp [j6.lt],fun op ho w=>?_⟩
   obtain⟨hlt,hb⟩:=List.getElem?_eq_some_iff.1 h5
   have hidx:(⟨str.toArray⟩:ByteArray)[m]?=some b:=by
    rw [ByteArray.getElem?_lt' _ _ (by rw [mq];exact hlt)]
    congr 1
   simp only [execOp,ho,Instr.index,Sem.run_bind,run_underlying hu,e1,h1,e3,h3,H8,asIntOf,Sem.run_pure,Result.andThen_ok]
   rw [if_pos (Int.natCast_nonneg m),Int.toNat_natCast,hidx]
   rfl
  ·rename_i len elem
   obtain⟨es,hes,h⟩:=bind_eq h
   obtain⟨sz,hsz,h⟩:=bind_eq h
   obtain⟨x',hx,h⟩:=bind_eq h
   obtain⟨i',hi,h⟩:=bind_eq h
   obtain rfl:=aR h
   obtain⟨e1,e2⟩:=I7 s hx
   obtain⟨e3,_⟩:=I7 s hi
   have hv':∃l k,∃m:Nat,trO x' ls env=.agg l∧trO i' ls env=.int k (m:Int)∧m<len∧xB sz l (m*es)=some v:=by
    cases sz with
    | none=>
     obtain⟨l,h1,h2⟩:=dS hv
     obtain⟨k,m,h3,hlt,h4⟩:=idx_eq h2
     exact⟨l,k,m,h1,h3,hlt,by simpa [xB] using h4⟩
    | some k=>
     obtain⟨l,h1,h2⟩:=dS hv
     obtain⟨k',m,h3,hlt,h4⟩:=idx_eq h2
     exact⟨l,k',m,h1,h3,hlt,by simpa [xB] using h4⟩
   obtain⟨l,k,m,h1,h3,hlt,h2⟩:=hv'
   rw [h1] at e1 e2
   obtain⟨g1,g2⟩:=vW (ι:=ι) hsz (show ltL n l from e2) (m*es) h2
   refine⟨g1,fun op ho w=>?_⟩
   simp [execOp,ho,Instr.index,run_underlying hu,run_sizeOf hes,e1,e3,h3,H8,asIntOf,hlt,g2]
  ·cases h
 | extract x i=>
  simp only [cOp] at h
  obtain⟨x',hx,h⟩:=bind_eq h
  obtain rfl:=aR h
  obtain⟨e1,e2⟩:=I7 s hx
  obtain⟨l,h1,h2⟩:=NQ hv
  have h1:trO x' ls env=.tuple l:=h1
  rw [je] at h2
  rw [h1] at e1 e2
  refine⟨O8 (show ltL n l from e2) (List.mem_of_getElem? h2),fun op ho w=>?_⟩
  simp [execOp,ho,Instr.extract,e1,H8,ah,h2]
 | call c=>
  obtain⟨callee,args,ts⟩:=c
  simp only [cOp] at h
  cases callee with
  | invoke _ _=>cases h
  | value f=>
   cases f with
   | func f=>
    obtain⟨fn,_,h⟩:=bind_eq h
    split at h
    ·obtain⟨os,_,h⟩:=bind_eq h;cases h
    ·cases h
   | _=>
    obtain⟨x',_,h⟩:=bind_eq h
    obtain⟨os,_,h⟩:=bind_eq h;cases h
  | builtin b=>
   obtain⟨args⟩:=args
   obtain⟨ts⟩:=ts
   simp only [oz] at h
   split at h
   ·
    rename_i t x
    obtain⟨u,hu,h⟩:=bind_eq h
    have hh:∃x',(aO P slots done x=some x'∧u=.string∧po=.lenS x')∨(aO P slots done x=some x'∧(∃e,u=.slice e)∧po=.len x')∨∃k e,u=.array k e∧po=.mov (.con (.int .i64 k)):=by
     split at h
     ·obtain⟨x',hx,h⟩:=bind_eq h;exact⟨x',.inl ⟨hx,rfl,(aR h).symm⟩⟩
     ·obtain⟨x',hx,h⟩:=bind_eq h;exact⟨x',.inr (.inl ⟨hx,⟨_,rfl⟩,(aR h).symm⟩)⟩
     ·exact⟨default,.inr (.inr ⟨_,_,rfl,(aR h).symm⟩)⟩
     ·obtain⟨x',hx,h⟩:=bind_eq h;cases h
     ·cases h
    obtain⟨x',⟨hx,rfl,rfl⟩ | ⟨hx,⟨e,rfl⟩,rfl⟩ | ⟨k,e,rfl,rfl⟩⟩:=hh
    ·obtain⟨e1,_⟩:=I7 s hx
     obtain⟨str,h1,h2⟩:=lu hv
     have h1:trO x' ls env=.str str:=h1
     cases h2
     exact⟨by simp [j6.lt],fun o ho w=>by simp [execOp,ho,resolve,invoke,builtin,Builtin.len_,run_underlying hu,e1,h1,H8,goInt,mq]⟩
    ·obtain⟨e1,_⟩:=I7 s hx
     rcases qY hv with⟨h1,h2⟩ | ⟨id,off,len,cap,h1,h2⟩ | ⟨id,off,len,cap,h1,h2⟩
     ·have h1:trO x' ls env=.nilSlice:=h1
      cases h2
      exact⟨by simp [j6.lt],fun o ho w=>by simp [execOp,ho,resolve,invoke,builtin,Builtin.len_,run_underlying hu,e1,h1,H8,goInt]⟩
     ·have h1:trO x' ls env=.slice id off len cap:=h1
      cases h2
      exact⟨by simp [j6.lt],fun o ho w=>by simp [execOp,ho,resolve,invoke,builtin,Builtin.len_,run_underlying hu,e1,h1,H8,goInt]⟩
     ·have h1:trO x' ls env=.sliceU id off len cap:=h1
      cases h2
      exact⟨by simp [j6.lt],fun o ho w=>by simp [execOp,ho,resolve,invoke,builtin,Builtin.len_,run_underlying hu,e1,h1,H8,goInt]⟩
    ·cases hv
     refine⟨by simp [trO,O9,j6.lt],fun o ho w=>?_⟩
     simp [execOp,ho,resolve,invoke,builtin,Builtin.len_,run_underlying hu,trO,O9,H8,goInt]
   ·
    rename_i t x
    obtain⟨u,hu,h⟩:=bind_eq h
    split at h
    ·obtain⟨x',hx,h⟩:=bind_eq h
     obtain rfl:=aR h
     obtain⟨e1,_⟩:=I7 s hx
     rcases qY hv with⟨h1,h2⟩ | ⟨id,off,len,cap,h1,h2⟩ | ⟨_,_,_,_,_,h2⟩
     ·have h1:trO x' ls env=.nilSlice:=h1
      cases h2
      exact⟨by simp [j6.lt],fun o ho w=>by simp [execOp,ho,resolve,invoke,builtin,Builtin.cap_,run_underlying hu,e1,h1,H8,goInt]⟩
     ·have h1:trO x' ls env=.slice id off len cap:=h1
      cases h2
      exact⟨by simp [j6.lt],fun o ho w=>by simp [execOp,ho,resolve,invoke,builtin,Builtin.cap_,run_underlying hu,e1,h1,H8,goInt]⟩
     ·cases h2
    ·cases h
   ·obtain⟨u,hu,h⟩:=bind_eq h
    split at h
    ·obtain⟨_,_,h⟩:=bind_eq h
     obtain⟨_,_,h⟩:=bind_eq h
     obtain⟨_,_,h⟩:=bind_eq h
     obtain⟨_,_,h⟩:=bind_eq h
     obtain⟨_,_,h⟩:=bind_eq h
     obtain⟨_,_,h⟩:=bind_eq h;cases h
    ·cases h
   ·obtain⟨u,hu,h⟩:=bind_eq h
    split at h
    ·obtain⟨_,_,h⟩:=bind_eq h
     obtain⟨_,_,h⟩:=bind_eq h
     obtain⟨_,_,h⟩:=bind_eq h;cases h
    ·cases h
   ·obtain⟨u,hu,h⟩:=bind_eq h
    split at h
    ·obtain⟨_,_,h⟩:=bind_eq h
     obtain⟨_,_,h⟩:=bind_eq h;cases h
    ·cases h
   ·
    rename_i x xs
    obtain⟨x',hx,h⟩:=bind_eq h
    obtain⟨xs',hxs,h⟩:=bind_eq h
    obtain rfl:=aR h
    obtain⟨e1,e2⟩:=I7 s hx
    obtain⟨e3,e4⟩:=gJ s hxs
    obtain⟨g1,g2⟩:=Dr (P:=P) (ι:=ι) true _ _ v e4 e2 hv
    refine⟨g1,fun o ho w=>?_⟩
    have:=g2 w
    simp only [if_true] at this
    simp [execOp,ho,resolve,invoke,builtin,Builtin.max_,e1,e3,this]
   ·rename_i x xs
    obtain⟨x',hx,h⟩:=bind_eq h
    obtain⟨xs',hxs,h⟩:=bind_eq h
    obtain rfl:=aR h
    obtain⟨e1,e2⟩:=I7 s hx
    obtain⟨e3,e4⟩:=gJ s hxs
    obtain⟨g1,g2⟩:=Dr (P:=P) (ι:=ι) false _ _ v e4 e2 hv
    refine⟨g1,fun o ho w=>?_⟩
    have:=g2 w
    simp only [Bool.false_eq_true,if_false] at this
    simp [execOp,ho,resolve,invoke,builtin,Builtin.min_,e1,e3,this]
   ·cases h
   ·cases h
 | alloc t=>simp only [cOp] at h;obtain⟨_,_,h⟩:=bind_eq h;cases h
 | box t x=>simp only [cOp] at h;obtain⟨_,_,h⟩:=bind_eq h;cases h
 | buildSlice t len parts=>
  simp only [cOp] at h
  obtain⟨_,_,h⟩:=bind_eq h
  split at h
  ·obtain⟨_,_,h⟩:=bind_eq h
   obtain⟨_,_,h⟩:=bind_eq h
   split at h
   ·obtain⟨_,_,h⟩:=bind_eq h;cases h
   ·cases h
  ·cases h
 | insert t m k x=>
  simp only [cOp] at h
  obtain⟨_,_,h⟩:=bind_eq h
  split at h
  ·obtain⟨_,_,h⟩:=bind_eq h
   obtain⟨_,_,h⟩:=bind_eq h
   obtain⟨_,_,h⟩:=bind_eq h
   obtain⟨_,_,h⟩:=bind_eq h;cases h
  ·cases h
 | mapUpdate t m k x=>
  simp only [cOp] at h
  obtain⟨_,_,h⟩:=bind_eq h
  split at h
  ·obtain⟨_,_,h⟩:=bind_eq h
   obtain⟨_,_,h⟩:=bind_eq h
   obtain⟨_,_,h⟩:=bind_eq h
   obtain⟨_,_,h⟩:=bind_eq h;cases h
  ·cases h
 | load t x=>simp only [cOp] at h;obtain⟨_,_,h⟩:=bind_eq h;obtain⟨_,_,h⟩:=bind_eq h;cases h
 | store t x y=>simp only [cOp] at h;obtain⟨_,_,h⟩:=bind_eq h;obtain⟨_,_,h⟩:=bind_eq h;obtain⟨_,_,h⟩:=bind_eq h;cases h
 | makeMap t r=>
  simp only [cOp] at h
  repeat' (first | (cases h;done) | split at h)
 | makeSlice t l c=>
  simp only [cOp] at h
  obtain⟨_,_,h⟩:=bind_eq h
  split at h
  ·obtain⟨_,_,h⟩:=bind_eq h
   obtain⟨_,_,h⟩:=bind_eq h
   obtain⟨_,_,h⟩:=bind_eq h
   obtain⟨_,_,h⟩:=bind_eq h
   obtain⟨_,_,h⟩:=bind_eq h;cases h
  ·cases h
 | lookup t x k ok=>
  simp only [cOp] at h
  obtain⟨_,_,h⟩:=bind_eq h
  split at h
  ·obtain⟨_,_,h⟩:=bind_eq h
   obtain⟨_,_,h⟩:=bind_eq h
   obtain⟨_,_,h⟩:=bind_eq h
   obtain⟨_,_,h⟩:=bind_eq h;cases h
  ·cases h
 | range t x=>
  simp only [cOp] at h
  obtain⟨_,_,h⟩:=bind_eq h
  split at h
  ·obtain⟨_,_,h⟩:=bind_eq h;cases h
  ·cases h
 | next it is=>
  cases is
  ·simp only [cOp] at h;obtain⟨_,_,h⟩:=bind_eq h;cases h
  ·simp only [cOp] at h;cases h
 | entry it=>simp only [cOp] at h;obtain⟨_,_,h⟩:=bind_eq h;cases h
 | panic x=>simp only [cOp] at h;obtain⟨_,_,h⟩:=bind_eq h;cases h
 | defer c=>
  simp only [cOp] at h
  split at h
  ·obtain⟨_,_,h⟩:=bind_eq h
   obtain⟨_,_,h⟩:=bind_eq h;cases h
  ·cases h
 | _=>simp only [cOp] at h;cases h
end
end Go.AM
