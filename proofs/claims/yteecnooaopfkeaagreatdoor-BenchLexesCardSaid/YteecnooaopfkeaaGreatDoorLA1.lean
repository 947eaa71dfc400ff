/- A part of an evaluator for the model, proved sound: what it answers holds of the model; it speaks of every program, no condition. -/
import GoSem.Core.Code
import GoSem.Core.Program
import GoSem.Core.View
import GoSem.Core.World
import GoSem.Core.Utf8
import GoSem.Core.Region
import GoSem.Core.Layout
import GoSem.Op.Equal
import GoSem.Extern.Table
import Derived.CallsIn
import Derived.Laws.Sem
import GoSem.Dispatch
import Derived.Laws.Strings
import Derived.KernelRfl
import Derived.Laws.Externs
set_option linter.unusedSimpArgs false
set_option linter.unusedVariables false
namespace Go.AM
open Go
noncomputable section
inductive T (α:Type) where
 | e:T α
 | nd:T α→α→T α→T α
inductive j3 where
 | undef
 | bool (b:Bool)
 | int (k:IntKind) (n:Int)
 | str (s:List UInt8)
 | nilPtr
 | ptr (id off:Nat)
 | nilSlice
 | slice (id off len cap:Nat)
 | sliceU (id off len es:Nat)
 | nilMap
 | map (id:Nat)
 | nilFunc
 | func (fn:Fn) (first captured:List j3)
 | nilIface
 | iface (t:TypeId) (v:j3)
 | agg (l:List j3)
 | tuple (l:List j3)
 | pan (v:j3)
 deriving Inhabited
def j3.cells:j3→List j3
 | .agg l=>l
 | v=>[v]
inductive Opd where
 | loc (k:Nat)
 | slot (j:Nat)
 | con (v:j3)
 deriving Inhabited
inductive PK where
 | i | b | s
 deriving Inhabited,DecidableEq
inductive EqK where
 | prim (k:PK) | flat (ks:List PK) | ptr | slice | map | func | iface
 deriving Inhabited,DecidableEq
inductive POp where
 | mov (x:Opd)
 | pick (c a b:Opd)
 | build (zero:List j3) (parts:List (Nat×Nat×Opd))
 | nilCheck (x:Opd)
 | ib (op:BinOp) (x y:Opd)
 | eq (neg:Bool) (k:EqK) (x y:Opd)
 | not (x:Opd)
 | neg (x:Opd)
 | inv (x:Opd)
 | conv (k:IntKind) (x:Opd)
 | mkIface (t:TypeId) (x:Opd)
 | mkFunc (fn:Fn) (first captured:List Opd)
 | slStr (x:Opd) (lo hi:Option Opd)
 | slArr (es n:Nat) (x:Opd) (lo hi:Option Opd)
 | fAddr (off:Nat) (x:Opd)
 | fld (off:Nat) (size:Option Nat) (x:Opd)
 | iAddr (es:Nat) (x i:Opd)
 | iAddrArr (es n:Nat) (x i:Opd)
 | iArr (es n:Nat) (size:Option Nat) (x i:Opd)
 | iStr (x i:Opd)
 | ext (x:Opd) (i:Nat)
 | len (x:Opd)
 | lenS (x:Opd)
 | cap (x:Opd)
 | mm (max:Bool) (x:Opd) (xs:List Opd)
 | assert (t:TypeId) (zero:j3) (ok:Bool) (x:Opd)
 deriving Inhabited
inductive ROp where
 | load (size:Option Nat) (a:Opd)
 | look (kk:EqK) (zero:j3) (ok:Bool) (m k:Opd)
 | lenM (x:Opd)
 | bytesStr (x:Opd)
 | entry (it:Opd)
 | slData (x:Opd)
 | toUns (x:Opd)
 | fromUns (oks:List (Nat×Nat)) (x:Opd)
 deriving Inhabited
inductive LOp where
 | alloc (zero:List j3)
 | box (x:Opd)
 | allocT (ty:Nat) (zero:List j3)
 | boxT (ty k:Nat) (x:Opd)
 | buildSlice (es len:Nat) (zero:List j3) (parts:List (Nat×Nat×Opd))
 | mkMap
 | mkSlice (es bytes:Nat) (zero:List j3) (len cap:Opd)
 | strBytes (x:Opd)
 | sl (es:Nat) (x:Opd) (lo hi:Option Opd)
 deriving Inhabited
inductive EOp where
 | store (size:Nat) (a x:Opd)
 | mapSet (kk:EqK) (m k x:Opd)
 | range (x:Opd)
 | next (it:Opd)
 | app (es:Nat) (zeros:Bool) (zero:List j3) (bytes:Nat) (s x:Opd)
 | copy (es:Nat) (d s:Opd)
 | clear (zero:List j3) (x:Opd)
 | call (f:FuncId) (args:List Opd)
 | callv (f:Opd) (args:List Opd)
 | defer (f:Opd) (args:List Opd)
 | panic (x:Opd)
 | recover
 | bad
 | rangeS (x:Opd)
 | nextS (it:Opd)
 | appB (ty:Nat) (s x:Opd)
 | ustr (ty:Nat) (p n:Opd)
 | storeAp (size:Nat) (a x b:Opd)
 deriving Inhabited
inductive AOp where
 | p (o:POp)
 | r (o:ROp)
 | a (o:LOp)
 | e (o:EOp)
 deriving Inhabited
structure Inst where
 op:AOp
 dst:Option Nat
 guard:Option (Opd×Bool)
 deriving Inhabited
inductive M6 where
 | skip
 | reg (ops:List Inst)
 | dreg (ids:Nat) (ops:List (Nat×Inst))
 | dreg2 (ids:Nat) (ops:List (Nat×Inst)) (tail:List Inst)
 | seq (a b:M6)
 | cond (c:Opd) (thn els:M6)
 | block (id:Nat) (body:M6)
 | loop (body:M6)
 | exit (id:Nat)
 | ret
 | rangeFunc (f:Opd) (params:List (Option Nat)) (assign body:M6)
 deriving Inhabited
inductive X9 where
 | normal
 | exit (id:Nat)
 | ret
 deriving Inhabited,DecidableEq
inductive Mk where
 | c (id:Nat)
 | d (f:j3) (args:List j3)
 deriving Inhabited
inductive sV where
 | tmp (j:Nat)
 | cell (j:Nat) (size:Option Nat)
 deriving Inhabited
structure AFn where
 nargs:Nat
 args:List (Option Nat)
 nslots:Nat
 results:List sV
 body:M6
 deriving Inhabited
def iL:POp→List Opd
 | .mov x=>[x]
 | .pick a b c=>[a,b,c]
 | .build _ ps=>ps.map (·.2.2)
 | .nilCheck x=>[x]
 | .ib _ x y=>[x,y]
 | .eq _ _ x y=>[x,y]
 | .not x=>[x]
 | .neg x=>[x]
 | .inv x=>[x]
 | .conv _ x=>[x]
 | .mkIface _ x=>[x]
 | .mkFunc _ a b=>a++b
 | .slStr x a b=>x::(a.toList++b.toList)
 | .slArr _ _ x a b=>x::(a.toList++b.toList)
 | .fAddr _ x=>[x]
 | .fld _ _ x=>[x]
 | .iAddr _ x i=>[x,i]
 | .iAddrArr _ _ x i=>[x,i]
 | .iArr _ _ _ x i=>[x,i]
 | .iStr x i=>[x,i]
 | .ext x _=>[x]
 | .len x=>[x]
 | .lenS x=>[x]
 | .cap x=>[x]
 | .mm _ x xs=>x::xs
 | .assert _ _ _ x=>[x]
def Bn:ROp→List Opd
 | .load _ a=>[a]
 | .look _ _ _ m x=>[m,x]
 | .lenM x=>[x]
 | .bytesStr x=>[x]
 | .entry x=>[x]
 | .slData x=>[x]
 | .toUns x=>[x]
 | .fromUns _ x=>[x]
def opsL:LOp→List Opd
 | .alloc _=>[]
 | .box x=>[x]
 | .allocT _ _=>[]
 | .boxT _ _ x=>[x]
 | .buildSlice _ _ _ ps=>ps.map (·.2.2)
 | .mkMap=>[]
 | .mkSlice _ _ _ l c=>[l,c]
 | .strBytes x=>[x]
 | .sl _ x a b=>x::(a.toList++b.toList)
def opsE:EOp→List Opd
 | .store _ a x=>[a,x]
 | .mapSet _ a b c=>[a,b,c]
 | .range x=>[x]
 | .next x=>[x]
 | .app _ _ _ _ s x=>[s,x]
 | .copy _ d s=>[d,s]
 | .clear _ x=>[x]
 | .call _ a=>a
 | .callv g a=>g::a
 | .defer g a=>g::a
 | .panic x=>[x]
 | .recover=>[]
 | .bad=>[]
 | .rangeS x=>[x]
 | .nextS x=>[x]
 | .appB _ s x=>[s,x]
 | .ustr _ p n=>[p,n]
 | .storeAp _ a x b=>[a,x,b]
def Et:AOp→List Opd
 | .p o=>iL o
 | .r o=>Bn o
 | .a o=>opsL o
 | .e o=>opsE o
variable {α β γ:Type}
def ob (o:Option α)(k:α→Option β):Option β:=Option.rec none (fun a=>k a) o
def bi (b:Bool)(x y:α):α:=Bool.rec y x b
def T.get (t:T α):Nat→Option α:=
 T.rec (fun _=>none) (fun _ x _ ihl ihr i=>Nat.rec (some x) (fun j _=>Nat.rec (ihl (Nat.div j 2)) (fun _ _=>ihr (Nat.div j 2)) (Nat.mod j 2)) i) t
def T.put (t:T α):Nat→α→T α:=
 T.rec (fun _ x=>.nd .e x .e) (fun l y r ihl ihr i x=>Nat.rec (.nd l x r) (fun j _=>Nat.rec (.nd (ihl (Nat.div j 2) x) y r) (fun _ _=>.nd l y (ihr (Nat.div j 2) x)) (Nat.mod j 2)) i) t
def T.fI (l:List α):T α→Nat→T α:=
 List.rec (fun t _=>t) (fun x _ ih t i=>ih (t.put i x) (Nat.succ i)) l
def T.ofList (l:List α):T α:=T.fI l .e 0
def T.slice (t:T α)(n:Nat):Nat→Option (List α):=
 Nat.rec (fun _=>some []) (fun _ ih i=>ob (t.get i) fun x=>ob (ih (Nat.succ i)) fun xs=>some (x::xs)) n
def T.rep (x:α)(n:Nat):T α→Nat→T α:=
 Nat.rec (fun t _=>t) (fun _ ih t i=>ih (t.put i x) (Nat.succ i)) n
def takeN (n:Nat):List α→Option (List α):=
 Nat.rec (fun _=>some []) (fun _ ih l=>List.rec none (fun x xs _=>ob (ih xs) fun r=>some (x::r)) l) n
def fJ (n:Nat):List α→List α:=
 Nat.rec (fun l=>l) (fun _ ih l=>List.rec [] (fun _ xs _=>ih xs) l) n
def sW (n:Nat):List α→Option α:=
 Nat.rec (fun l=>List.rec none (fun x _ _=>some x) l) (fun _ ih l=>List.rec none (fun _ xs _=>ih xs) l) n
def nth (n:Nat):List j3→j3:=
 Nat.rec (fun l=>List.rec j3.undef (fun x _ _=>x) l) (fun _ ih l=>List.rec j3.undef (fun _ xs _=>ih xs) l) n
def dz (l m:List α):List α:=List.rec m (fun x _ ih=>x::ih) l
def len' (l:List α):Nat:=List.rec 0 (fun _ _ ih=>Nat.succ ih) l
def iO (n:Nat)(vs:List α):List α→List α:=
 Nat.rec (fun l=>dz vs (fJ (len' vs) l)) (fun _ ih l=>List.rec [] (fun x xs _=>x::ih xs) l) n
def iP (v:j3)(k:Nat→Nat→Option β):Option β:=match v with
 | .ptr i o=>k i o
 | _=>none
def vB (v:j3)(k:IntKind→Int→Option β):Option β:=match v with
 | .int a b=>k a b
 | _=>none
def kV (v:j3)(k:Bool→Option β):Option β:=match v with
 | .bool b=>k b
 | _=>none
def pO (v:j3)(k:List UInt8→Option β):Option β:=match v with
 | .str s=>k s
 | _=>none
def zM (v:j3)(k:List j3→Option β):Option β:=match v with
 | .agg l=>k l
 | _=>none
def JR (v:j3)(k:List j3→Option β):Option β:=match v with
 | .tuple l=>k l
 | _=>none
def zH (v:j3)(nl:Option β)(k:Nat→Option β):Option β:=match v with
 | .nilMap=>nl
 | .map i=>k i
 | _=>none
def vSl (v:j3)(nl:Option β)(k:Nat→Nat→Nat→Nat→Option β)(u:Nat→Nat→Nat→Nat→Option β):Option β:=match v with
 | .nilSlice=>nl
 | .slice a b c d=>k a b c d
 | .sliceU a b c d=>u a b c d
 | _=>none
def JU (v:j3)(k:Fn→List j3→List j3→Option β):Option β:=match v with
 | .func f a b=>k f a b
 | _=>none
def JV (n:Int)(k:Nat→Option β):Option β:=match n with
 | .ofNat m=>k m
 | .negSucc _=>none
def kU (v:j3)(k:Nat→Option β):Option β:=vB v fun _ n=>JV n k
inductive Blk where
 | void
 | dead
 | cells (rs n:Nat) (rows:T (List j3))
 | map (es:List (j3×j3))
 | iter (m:Option Nat) (since:Nat) (seen:List Nat)
 | tail (parent:Nat)
 | loop (st:LoopState) (pend:Option X9) (env:T j3) (params:List (Option Nat)) (assign body:M6)
 | deferred
 | siter (s:List UInt8) (pos:Nat)
 | buf (ty:Nat) (s:List UInt8)
 | mapU (es:List (j3×j3))
 deriving Inhabited
structure Mem where
 t:T Blk
 next:Nat
 lim:Nat
def Mem.get (m:Mem)(i:Nat):Option Blk:=m.t.get i
def Mem.new (m:Mem)(b:Blk):Mem:=⟨m.t.put m.next b,Nat.succ m.next,m.lim⟩
def Mem.set (m:Mem)(i:Nat)(b:Blk):Mem:=⟨m.t.put i b,m.next,m.lim⟩
def K5 (b:Option Blk)(k:Nat→Nat→T (List j3)→Option β):Option β:=match b with
 | some (.cells rs n rows)=>k rs n rows
 | _=>none
def vEs (b:Option Blk)(k:List (j3×j3)→Option β):Option β:=match b with
 | some (.map es)=>k es
 | _=>none
def JW (b:Option Blk)(k:List (j3×j3)→Option β):Option β:=match b with
 | some (.map es)=>k es
 | some (.mapU es)=>k es
 | _=>none
def Ot (ty:Nat):List j3:=[.pan (.int .u64 (.ofNat ty))]
def CK (rows:T (List j3)):Option Nat:=ob (rows.get 1) fun r=>List.rec none (fun v _ _=>match v with
 | .pan (.int .u64 (.ofNat n))=>some n
 | _=>none) r
def cell1 (rs n:Nat)(rows:T (List j3))(off:Nat):Option j3:=
 Bool.rec none (Option.rec none (fun row=>sW (Nat.mod off rs) row) (rows.get (Nat.div off rs))) (Nat.blt (Nat.div off rs) n)
def eT (rs n:Nat)(rows:T (List j3))(off k:Nat):Option (List j3):=
 bi (Nat.blt (Nat.div off rs) n) (ob (rows.get (Nat.div off rs)) fun row=>
  bi (Nat.beq (Nat.mod off rs) 0) (bi (Nat.beq k rs) (some row) (takeN k row)) (takeN k (fJ (Nat.mod off rs) row))) none
def H7 (rs n:Nat)(rows:T (List j3))(k:Nat):Nat→Option (List j3):=
 Nat.rec (fun _=>some []) (fun _ ih off=>ob (cell1 rs n rows off) fun v=>ob (ih (Nat.succ off)) fun l=>some (v::l)) k
def L6 (rs n:Nat)(rows:T (List j3))(off:Nat)(vs:List j3):Option (T (List j3)):=
 bi (Nat.blt (Nat.div off rs) n) (ob (rows.get (Nat.div off rs)) fun row=>
  bi (Nat.ble (Nat.add (Nat.mod off rs) (len' vs)) rs) (some (rows.put (Nat.div off rs) (iO (Nat.mod off rs) vs row))) none) none
def aF (rs n:Nat)(vs:List j3):T (List j3)→Nat→Option (T (List j3)):=
 List.rec (fun rows _=>some rows) (fun v _ ih rows off=>ob (L6 rs n rows off [v]) fun rows'=>ih rows' (Nat.succ off)) vs
def rowsOf (rs n:Nat):List j3→Option (List (List j3)):=
 Nat.rec (fun l=>List.rec (some []) (fun _ _ _=>none) l) (fun _ ih l=>ob (takeN rs l) fun r=>ob (ih (fJ rs l)) fun rest=>some (r::rest)) n
def bM (v:j3):Bool:=match v with
 | .undef | .agg _ | .tuple _ | .pan _=>false
 | _=>true
def G7 (l:List j3):Bool:=List.rec true (fun v _ ih=>bi (bM v) ih false) l
def storeAt (m:Mem)(id off:Nat)(vs:List j3)(k:Mem→Option β):Option β:=
 bi (Nat.blt id m.lim) none (bi (G7 vs) (K5 (m.get id) fun rs n rows=>ob (L6 rs n rows off vs) fun rows'=>k (m.set id (.cells rs n rows'))) none)
def bN (m:Mem)(id off:Nat)(vs:List j3)(k:Mem→Option β):Option β:=
 List.rec (k m) (fun _ _ _=>bi (Nat.blt id m.lim) none (bi (G7 vs) (K5 (m.get id) fun rs n rows=>ob (aF rs n vs rows off) fun rows'=>k (m.set id (.cells rs n rows'))) none)) vs
abbrev OF:=List j3→T j3→j3
def dB (k:Nat):OF:=fun ls _=>nth k ls
def oL0:OF:=fun ls _=>List.rec j3.undef (fun x _ _=>x) ls
def oL1:OF:=fun ls _=>List.rec j3.undef (fun _ l _=>List.rec j3.undef (fun x _ _=>x) l) ls
def oL2:OF:=fun ls _=>List.rec j3.undef (fun _ l _=>List.rec j3.undef (fun _ l _=>List.rec j3.undef (fun x _ _=>x) l) l) ls
def oL3:OF:=fun ls _=>List.rec j3.undef (fun _ l _=>List.rec j3.undef (fun _ l _=>List.rec j3.undef (fun _ l _=>List.rec j3.undef (fun x _ _=>x) l) l) l) ls
def x9 (v:j3):OF:=fun _ _=>v
def gH:T j3→j3:=T.rec .undef (fun _ x _ _ _=>x)
def gL (g:T j3→j3):T j3→j3:=T.rec .undef (fun l _ _ _ _=>g l)
def gR (g:T j3→j3):T j3→j3:=T.rec .undef (fun _ _ r _ _=>g r)
def D5 (g:T j3→j3):OF:=fun _ env=>g env
def way:Nat→Nat→T j3→j3
 | 0,_=>fun _=>.undef
 | _+1,0=>gH
 | n+1,j+1=>match j%2 with
  | 0=>gL (way n (j / 2))
  | _=>gR (way n (j / 2))
def trO:Opd→OF
 | .loc 0=>oL0
 | .loc 1=>oL1
 | .loc 2=>oL2
 | .loc 3=>oL3
 | .loc k=>dB k
 | .slot j=>D5 (way 64 j)
 | .con v=>x9 v
def iE:List Opd→List OF
 | []=>[]
 | x::l=>trO x::iE l
def ny:Option Opd→Option OF
 | none=>none
 | some x=>some (trO x)
def evs (l:List OF)(ls:List j3)(env:T j3):List j3:=List.rec [] (fun x _ ih=>x ls env::ih) l
def sH:j3→T j3→T j3:=fun v=>T.rec .e (fun l _ r _ _=>.nd l v r)
def sL (s:j3→T j3→T j3):j3→T j3→T j3:=fun v=>T.rec .e (fun l x r _ _=>.nd (s v l) x r)
def sR (s:j3→T j3→T j3):j3→T j3→T j3:=fun v=>T.rec .e (fun l x r _ _=>.nd l x (s v r))
def M7:Nat→Nat→j3→T j3→T j3
 | 0,_=>fun _ t=>t
 | _+1,0=>sH
 | n+1,j+1=>match j%2 with
  | 0=>sL (M7 n (j / 2))
  | _=>sR (M7 n (j / 2))
def sNo:j3→T j3→T j3:=fun _ t=>t
def trD:Option Nat→j3→T j3→T j3
 | none=>sNo
 | some j=>M7 64 j
def w64 (n:Int):Int:=match n with
 | .ofNat m=>bi (Nat.blt m 9223372036854775808) (.ofNat m) (IntKind.i64.wrap (.ofNat m))
 | .negSucc m=>bi (Nat.blt m 9223372036854775808) (.negSucc m) (IntKind.i64.wrap (.negSucc m))
def pQ (k:IntKind)(n:Int):Int:=match k with
 | .i64=>w64 n
 | k=>k.wrap n
def aG:Int→Int→Bool
 | .ofNat a,.ofNat b=>Nat.beq a b
 | .negSucc a,.negSucc b=>Nat.beq a b
 | _,_=>false
def kW:Int→Int→Bool
 | .ofNat a,.ofNat b=>Nat.blt a b
 | .negSucc _,.ofNat _=>true
 | .ofNat _,.negSucc _=>false
 | .negSucc a,.negSucc b=>Nat.blt b a
def kEq (a b:IntKind):Bool:=match a,b with
 | .i64,.i64=>true
 | a,b=>decide (a=b)
def strEq (a:List UInt8):List UInt8→Bool:=
 List.rec (fun b=>List.rec true (fun _ _ _=>false) b) (fun x _ ih b=>List.rec false (fun y ys _=>bi (Nat.beq x.toNat y.toNat) (ih ys) false) b) a
def kH:List UInt8→List UInt8→Bool
 | _,[]=>false
 | [],_ :: _=>true
 | a::x,b::y=>a<b||(a==b&&kH x y)
def vC (k:IntKind)(f:BitVec k.bits→BitVec k.bits→BitVec k.bits)(a b:Int):j3:=
 .int k (k.wrap (f (BitVec.ofInt k.bits a) (BitVec.ofInt k.bits b)).toNat)
def Tm (b:Int)(r:Option j3):Option j3:=match b with
 | .ofNat 0=>none
 | _=>r
abbrev IB:=IntKind→Int→Int→Option j3
def fH:IB:=fun k a b=>some (.int k (pQ k (a+b)))
def xg:IB:=fun k a b=>some (.int k (pQ k (a-b)))
def Ig:IB:=fun k a b=>some (.int k (pQ k (a*b)))
def Rs:IB:=fun k a b=>Tm b (some (.int k (pQ k (a.tdiv b))))
def Tn:IB:=fun k a b=>Tm b (some (.int k (a.tmod b)))
def acV:IB:=fun k a b=>some (vC k (· &&& ·) a b)
def iOr:IB:=fun k a b=>some (vC k (· ||| ·) a b)
def acW:IB:=fun k a b=>some (vC k (· ^^^ ·) a b)
def Eu:IB:=fun k a b=>some (vC k (fun x y=>x &&& ~~~y) a b)
def iEq:IB:=fun _ a b=>some (.bool (aG a b))
def iNe:IB:=fun _ a b=>some (.bool (!aG a b))
def iLt:IB:=fun _ a b=>some (.bool (kW a b))
def iLe:IB:=fun _ a b=>some (.bool (!kW b a))
def iGt:IB:=fun _ a b=>some (.bool (kW b a))
def iGe:IB:=fun _ a b=>some (.bool (!kW a b))
def iNo:IB:=fun _ _ _=>none
abbrev SB:=List UInt8→List UInt8→Option j3
def fK:SB:=fun a b=>bi (Nat.blt (Nat.add (len' a) (len' b)) 9223372036854775808) (some (.str (dz a b))) none
def sEq:SB:=fun a b=>some (.bool (strEq a b))
def sNe:SB:=fun a b=>some (.bool (!strEq a b))
def sLt:SB:=fun a b=>some (.bool (kH a b))
def sLe:SB:=fun a b=>some (.bool (kH a b||strEq a b))
def sGt:SB:=fun a b=>some (.bool (!(kH a b||strEq a b)))
def sGe:SB:=fun a b=>some (.bool (!kH a b))
def cu:SB:=fun _ _=>none
def Io:BinOp→IB
 | .add=>fH | .sub=>xg | .mul=>Ig | .quo=>Rs | .rem=>Tn | .and=>acV | .or=>iOr | .xor=>acW | .andNot=>Eu
 | .shl=>iNo | .shr=>iNo | .eql=>iEq | .neq=>iNe | .lss=>iLt | .leq=>iLe | .gtr=>iGt | .geq=>iGe
def Ip:BinOp→SB
 | .add=>fK | .eql=>sEq | .neq=>sNe | .lss=>sLt | .leq=>sLe | .gtr=>sGt | .geq=>sGe
 | _=>cu
def Eh (f:IB)(g:SB)(x y:j3):Option j3:=match x with
 | .int k a=>vB y fun k' b=>bi (kEq k k') (f k a b) none
 | .str a=>pO y fun b=>g a b
 | _=>none
def Rt (x y:j3):Option j3:=vB x fun k a=>kU y fun m=>some (.int k (pQ k (a*2^(min m k.bits))))
def Ru (x y:j3):Option j3:=vB x fun k a=>kU y fun m=>some (.int k (a.fdiv (2^(min m k.bits))))
def xk (a b:Bool):Bool:=bi a b (bi b false true)
def J5 (x y:j3):Option Bool:=vB x fun k a=>vB y fun k' b=>bi (kEq k k') (some (aG a b)) none
def oz (x y:j3):Option Bool:=kV x fun a=>kV y fun b=>some (xk a b)
def eqStr (x y:j3):Option Bool:=pO x fun a=>pO y fun b=>some (strEq a b)
def Ih (k:PK):j3→j3→Option Bool:=match k with
 | .i=>J5
 | .b=>oz
 | .s=>eqStr
def R6 (ks:List PK):List j3→List j3→Option Bool:=
 List.rec (fun _ _=>some true) (fun k _ ih a b=>List.rec none (fun x xs _=>List.rec none (fun y ys _=>ob (Ih k x y) fun r=>bi r (ih xs ys) (some false)) b) a) ks
def kg (ks:List PK)(x y:j3):Option Bool:=zM x fun a=>zM y fun b=>R6 ks a b
def vD (x y:j3):Option Bool:=match x,y with
 | .nilPtr,.nilPtr=>some true
 | .nilPtr,.ptr _ _=>some false
 | .ptr _ _,.nilPtr=>some false
 | .ptr a b,.ptr c d=>bi (Nat.beq a c) (bi (Nat.beq b d) (some true) none) none
 | _,_=>none
def nA (x y:j3):Option Bool:=match x,y with
 | .nilSlice,.nilSlice=>some true
 | .nilSlice,.slice .. | .nilSlice,.sliceU ..=>some false
 | .slice ..,.nilSlice | .sliceU ..,.nilSlice=>some false
 | _,_=>none
def Ev (x y:j3):Option Bool:=match x,y with
 | .nilMap,.nilMap=>some true
 | .nilMap,.map _ | .map _,.nilMap=>some false
 | _,_=>none
def xq (x y:j3):Option Bool:=match x,y with
 | .nilFunc,.nilFunc=>some true
 | .nilFunc,.func .. | .func ..,.nilFunc=>some false
 | _,_=>none
def cB (x y:j3):Option Bool:=match x,y with
 | .nilIface,.nilIface=>some true
 | .nilIface,.iface .. | .iface ..,.nilIface=>some false
 | _,_=>none
abbrev EqF:=j3→j3→Option Bool
def pR:EqK→EqF
 | .prim .i=>J5 | .prim .b=>oz | .prim .s=>eqStr | .flat ks=>kg ks | .ptr=>vD | .slice=>nA | .map=>Ev | .func=>xq | .iface=>cB
abbrev PF:=List j3→T j3→Option j3
def J6 (x:OF):PF:=fun ls env=>some (x ls env)
def Z8 (c a b:OF):PF:=fun ls env=>kV (c ls env) fun t=>some (bi t (a ls env) (b ls env))
def lay (ps:List (Nat×Nat×OF))(ls:List j3)(env:T j3):List j3→Option (List j3):=
 List.rec (fun cs=>some cs) (fun p _ ih cs=>
  bi (Nat.beq (len' (p.2.2 ls env).cells) p.2.1) (bi (Nat.ble (Nat.add p.1 p.2.1) (len' cs)) (ih (iO p.1 (p.2.2 ls env).cells cs)) none) none) ps
def E9 (zero:List j3)(ps:List (Nat×Nat×OF)):PF:=fun ls env=>ob (lay ps ls env zero) fun l=>some (.agg l)
def tV (v:j3):Option j3:=match v with
 | .nilPtr | .nilIface | .nilFunc=>none
 | .func (.func f) a b=>some (.func (.func f) a b)
 | .func ..=>none
 | v=>some v
def O7 (x:OF):PF:=fun ls env=>tV (x ls env)
def pIb (f:IB)(g:SB)(x y:OF):PF:=fun ls env=>Eh f g (x ls env) (y ls env)
def Tp (x y:OF):PF:=fun ls env=>Rt (x ls env) (y ls env)
def Nw (x y:OF):PF:=fun ls env=>Ru (x ls env) (y ls env)
def pEq (f:EqF)(x y:OF):PF:=fun ls env=>ob (f (x ls env) (y ls env)) fun b=>some (.bool b)
def pNe (f:EqF)(x y:OF):PF:=fun ls env=>ob (f (x ls env) (y ls env)) fun b=>some (.bool (!b))
def JX (x:OF):PF:=fun ls env=>kV (x ls env) fun b=>some (.bool (!b))
def Tq (x:OF):PF:=fun ls env=>vB (x ls env) fun k n=>some (vC k (· ^^^ ·) (bi k.signed (-1) k.max) n)
def KM (x:OF):PF:=fun ls env=>vB (x ls env) fun k n=>some (.int k (pQ k (0-n)))
def kI (k:IntKind)(x:OF):PF:=fun ls env=>vB (x ls env) fun _ n=>some (.int k (pQ k n))
def oD (t:TypeId)(x:OF):PF:=fun ls env=>some (.iface t (x ls env))
def sZ (fn:Fn)(a b:List OF):PF:=fun ls env=>some (.func fn (evs a ls env) (evs b ls env))
def aH (o:Option OF)(d:Nat)(ls:List j3)(env:T j3)(k:Nat→Option β):Option β:=
 Option.rec (k d) (fun x=>kU (x ls env) k) o
def aW (x:OF)(lo hi:Option OF):PF:=fun ls env=>pO (x ls env) fun s=>
 aH lo 0 ls env fun l=>aH hi (len' s) ls env fun h=>
  bi (Nat.ble l h) (bi (Nat.ble h (len' s)) (ob (takeN (Nat.sub h l) (fJ l s)) fun r=>some (.str r)) none) none
def Bo (es n:Nat)(x:OF)(lo hi:Option OF):PF:=fun ls env=>iP (x ls env) fun id off=>
 aH lo 0 ls env fun l=>aH hi n ls env fun h=>
  bi (Nat.ble l h) (bi (Nat.ble h n) (some (.slice id (bi (Nat.beq l n) off (Nat.add off (Nat.mul l es))) (Nat.sub h l) (Nat.sub n l))) none) none
def D8 (o:Nat)(x:OF):PF:=fun ls env=>iP (x ls env) fun id off=>some (.ptr id (Nat.add off o))
def KN (off:Nat)(x:OF):PF:=fun ls env=>zM (x ls env) fun cs=>sW off cs
def KO (off k:Nat)(x:OF):PF:=fun ls env=>zM (x ls env) fun cs=>ob (takeN k (fJ off cs)) fun l=>some (.agg l)
def idx (len:Nat)(v:j3)(k:Nat→Option β):Option β:=kU v fun i=>bi (Nat.blt i len) (k i) none
def G8 (es:Nat)(x i:OF):PF:=fun ls env=>
 vSl (x ls env) none (fun id off len _=>idx len (i ls env) fun k=>some (.ptr id (Nat.add off (Nat.mul k es))))
  (fun id off len _=>idx len (i ls env) fun k=>some (.ptr id (Nat.add off (Nat.mul k es))))
def kX (es n:Nat)(x i:OF):PF:=fun ls env=>iP (x ls env) fun id off=>idx n (i ls env) fun k=>some (.ptr id (Nat.add off (Nat.mul k es)))
def Bp (es n:Nat)(x i:OF):PF:=fun ls env=>zM (x ls env) fun cs=>idx n (i ls env) fun k=>sW (Nat.mul k es) cs
def JY (es n sz:Nat)(x i:OF):PF:=fun ls env=>zM (x ls env) fun cs=>idx n (i ls env) fun k=>ob (takeN sz (fJ (Nat.mul k es) cs)) fun l=>some (.agg l)
def nC (x i:OF):PF:=fun ls env=>pO (x ls env) fun s=>kU (i ls env) fun k=>ob (sW k s) fun b=>some (.int .u8 b.toNat)
def pExt (x:OF)(i:Nat):PF:=fun ls env=>JR (x ls env) fun l=>sW i l
def lenOf (v:j3):Option Nat:=match v with
 | .nilSlice=>some 0
 | .slice _ _ n _=>some n
 | .sliceU _ _ n _=>some n
 | .str s=>some (len' s)
 | _=>none
def Ei (x:OF):PF:=fun ls env=>vSl (x ls env) (some (.int .i64 0)) (fun _ _ n _=>some (.int .i64 (.ofNat n))) (fun _ _ n _=>some (.int .i64 (.ofNat n)))
def tq (x:OF):PF:=fun ls env=>pO (x ls env) fun s=>some (.int .i64 (.ofNat (len' s)))
def Tt (x:OF):PF:=fun ls env=>vSl (x ls env) (some (.int .i64 0)) (fun _ _ _ c=>some (.int .i64 (.ofNat c))) (fun _ _ _ _=>none)
def mm2 (mx:Bool)(x y:j3):Option j3:=vB x fun k a=>vB y fun _ b=>some (.int k (bi mx (bi (kW a b) b a) (bi (kW b a) b a)))
def Ew (mx:Bool)(ys:List j3):j3→Option j3:=List.rec (fun x=>some x) (fun y _ ih x=>ob (mm2 mx x y) ih) ys
def pMm (mx:Bool)(x:OF)(xs:List OF):PF:=fun ls env=>Ew mx (evs xs ls env) (x ls env)
def Ey (t:TypeId)(zero:j3)(ok:Bool)(v:j3):Option j3:=match v with
 | .iface u y=>bi (Nat.beq u t) (some (bi ok (.tuple [y,.bool true]) y)) (bi ok (some (.tuple [zero,.bool false])) none)
 | .nilIface=>bi ok (some (.tuple [zero,.bool false])) none
 | _=>none
def Ez (t:TypeId)(zero:j3)(ok:Bool)(x:OF):PF:=fun ls env=>Ey t zero ok (x ls env)
def CP:List (Nat×Nat×Opd)→List (Nat×Nat×OF)
 | []=>[]
 | p::l=>(p.1,p.2.1,trO p.2.2)::CP l
def trP:POp→PF
 | .mov x=>J6 (trO x)
 | .pick c a b=>Z8 (trO c) (trO a) (trO b)
 | .build z ps=>E9 z (CP ps)
 | .nilCheck x=>O7 (trO x)
 | .ib op x y=>match op with
  | .shl=>Tp (trO x) (trO y)
  | .shr=>Nw (trO x) (trO y)
  | op=>pIb (Io op) (Ip op) (trO x) (trO y)
 | .eq neg k x y=>match neg with
  | true=>pNe (pR k) (trO x) (trO y)
  | false=>pEq (pR k) (trO x) (trO y)
 | .not x=>JX (trO x)
 | .neg x=>KM (trO x)
 | .inv x=>Tq (trO x)
 | .conv k x=>kI k (trO x)
 | .mkIface t x=>oD t (trO x)
 | .mkFunc fn a b=>sZ fn (iE a) (iE b)
 | .slStr x lo hi=>aW (trO x) (ny lo) (ny hi)
 | .slArr es n x lo hi=>Bo es n (trO x) (ny lo) (ny hi)
 | .fAddr o x=>D8 o (trO x)
 | .fld off size x=>match size with
  | none=>KN off (trO x)
  | some k=>KO off k (trO x)
 | .iAddr es x i=>G8 es (trO x) (trO i)
 | .iAddrArr es n x i=>kX es n (trO x) (trO i)
 | .iArr es n size x i=>match size with
  | none=>Bp es n (trO x) (trO i)
  | some k=>JY es n k (trO x) (trO i)
 | .iStr x i=>nC (trO x) (trO i)
 | .ext x i=>pExt (trO x) i
 | .len x=>Ei (trO x)
 | .lenS x=>tq (trO x)
 | .cap x=>Tt (trO x)
 | .mm mx x xs=>pMm mx (trO x) (iE xs)
 | .assert t z ok x=>Ez t z ok (trO x)
abbrev RF:=List j3→T j3→Mem→Option j3
def iF (a:OF):RF:=fun ls env m=>iP (a ls env) fun id off=>K5 (m.get id) fun rs n rows=>cell1 rs n rows off
def I5 (k:Nat)(a:OF):RF:=fun ls env m=>iP (a ls env) fun id off=>K5 (m.get id) fun rs n rows=>ob (eT rs n rows off k) fun l=>some (.agg l)
def findKey (f:EqF)(k:j3)(es:List (j3×j3)):Nat→Option (Option (Nat×j3)):=
 List.rec (fun _=>some none) (fun e _ ih i=>ob (f k e.1) fun b=>bi b (some (some (i,e.2))) (ih (Nat.succ i))) es
def found (ok:Bool)(zero:j3)(o:Option (Nat×j3)):Option j3:=
 Option.rec (some (bi ok (.tuple [zero,.bool false]) zero)) (fun p=>some (bi ok (.tuple [p.2,.bool true]) p.2)) o
def I6 (f:EqF)(n:Nat)(k:j3)(es:List (j3×j3)):Option (Option (Nat×j3)):=
 bi (Nat.beq (len' k.cells) n) (List.rec (ob (f k k) fun _=>some none) (fun _ _ _=>findKey f k es 0) es) none
def xu (f:EqF)(n:Nat)(zero:j3)(ok:Bool)(mp k:OF):RF:=fun ls env m=>
 zH (mp ls env) (ob (I6 f n (k ls env) []) fun r=>found ok zero r) fun id=>JW (m.get id) fun es=>ob (I6 f n (k ls env) es) fun r=>found ok zero r
def Ou (x:OF):RF:=fun ls env m=>zH (x ls env) (some (.int .i64 0)) fun id=>vEs (m.get id) fun es=>some (.int .i64 (.ofNat (len' es)))
def bytesOf:List UInt8→List j3
 | []=>[]
 | b::l=>.int .u8 b.toNat::bytesOf l
def byteOf:List j3→Option (List UInt8)
 | []=>some []
 | .int .u8 (.ofNat n)::l=>match byteOf l with
  | some s=>some (UInt8.ofNat n::s)
  | none=>none
 | _ :: _=>none
def I7 (m:Mem)(id off n:Nat):Option (List j3):=
 Nat.rec (some []) (fun _ _=>K5 (m.get id) fun rs k rows=>H7 rs k rows n off) n
def cK (m:Mem)(es n:Nat)(v:j3):Option (List j3):=match v with
 | .nilSlice=>some []
 | .slice id off _ _=>I7 m id off (Nat.mul n es)
 | .sliceU id off _ _=>I7 m id off (Nat.mul n es)
 | .str s=>some (bytesOf (s.take n))
 | _=>none
def U0 (x:OF):RF:=fun ls env m=>
 vSl (x ls env) (some (.str [])) (fun id off len _=>ob (I7 m id off len) fun l=>ob (byteOf l) fun s=>some (.str s))
  (fun id off len _=>ob (I7 m id off len) fun l=>ob (byteOf l) fun s=>some (.str s))
def CQ (b:Option Blk)(nl:Option β)(k:Nat→Nat→List Nat→Option β):Option β:=match b with
 | some (.iter none _ _)=>nl
 | some (.iter (some mp) since seen)=>k mp since seen
 | _=>none
def kY (it:OF):RF:=fun ls env m=>iP (it ls env) fun id off=>bi (Nat.beq off 0)
 (CQ (m.get id) none fun mp since seen=>List.rec none (fun i _ _=>vEs (m.get mp) fun es=>bi (Nat.beq (len' es) since) (ob (sW i es) fun e=>some (.tuple [e.1,e.2])) none) seen) none
def EA (x:OF):RF:=fun ls env _=>vSl (x ls env) (some .nilPtr) (fun id off _ cap=>bi (Nat.blt 0 cap) (some (.ptr id off)) none) (fun id off len _=>bi (Nat.blt 0 len) (some (.ptr id off)) none)
def oF (x:OF):RF:=fun ls env m=>match x ls env with
 | .nilPtr=>some .nilPtr
 | .ptr id off=>K5 (m.get id) fun rs n _=>bi (Nat.blt off (Nat.mul n rs)) (some (.ptr id off)) none
 | _=>none
def Rv (ty off:Nat)(l:List (Nat×Nat)):Bool:=List.rec false (fun p _ ih=>bi (Nat.beq p.1 ty) (bi (Nat.beq p.2 off) true ih) ih) l
def eU (oks:List (Nat×Nat))(x:OF):RF:=fun ls env m=>match x ls env with
 | .nilPtr=>some .nilPtr
 | .ptr id off=>K5 (m.get id) fun _ n rows=>bi (Nat.beq n 1) (ob (CK rows) fun ty=>bi (Rv ty off oks) (some (.ptr id off)) none) none
 | _=>none
def CR:EqK→Nat
 | .flat ks=>ks.length
 | _=>1
def trR:ROp→RF
 | .load size a=>match size with
  | none=>iF (trO a)
  | some k=>I5 k (trO a)
 | .look kk zero ok m k=>xu (pR kk) (CR kk) zero ok (trO m) (trO k)
 | .lenM x=>Ou (trO x)
 | .bytesStr x=>U0 (trO x)
 | .entry it=>kY (trO it)
 | .slData x=>EA (trO x)
 | .toUns x=>oF (trO x)
 | .fromUns oks x=>eU oks (trO x)
abbrev LR:=Option (j3×Option Blk)
abbrev LF:=List j3→T j3→Nat→LR
def Q9 (cs:List j3):Blk:=.cells (len' cs) 1 (.nd .e cs .e)
def qy (es n:Nat)(cells:List j3)(k:Blk→Option β):Option β:=ob (rowsOf es n cells) fun rows=>k (.cells es n (T.ofList rows))
def Iq (ty:Nat)(cs:List j3):Blk:=.cells (len' cs) 1 (.nd (.nd .e (Ot ty) .e) cs .e)
def EB (ty:Nat)(zero:List j3):LF:=fun _ _ nid=>some (.ptr nid 0,some (Iq ty zero))
def Ov (ty k:Nat)(x:OF):LF:=fun ls env nid=>bi (Nat.beq (len' (x ls env).cells) k) (some (.ptr nid 0,some (Iq ty (x ls env).cells))) none
def bO (zero:List j3):LF:=fun _ _ nid=>some (.ptr nid 0,some (Q9 zero))
def Ny (x:OF):LF:=fun ls env nid=>some (.ptr nid 0,some (Q9 (x ls env).cells))
def I4 (zero:List j3)(n:Nat):List j3:=Nat.rec [] (fun _ ih=>dz zero ih) n
def F6 (es len:Nat)(zero:List j3)(ps:List (Nat×Nat×OF)):LF:=fun ls env nid=>
 ob (lay ps ls env (I4 zero len)) fun cells=>qy es len cells fun b=>some (.slice nid 0 len len,some b)
def iQ:LF:=fun _ _ nid=>some (.map nid,some (.map []))
def Bq (es bytes:Nat)(zero:List j3)(len cap:OF):LF:=fun ls env nid=>
 kU (len ls env) fun l=>kU (cap ls env) fun c=>
  bi (Nat.ble l c) (bi (Nat.ble (Nat.mul bytes c) 281474976710656) (bi (Nat.blt c 9223372036854775808)
   (some (.slice nid 0 l c,some (.cells es c (T.rep zero c .e 0)))) none) none) none
def qz (x:OF):LF:=fun ls env nid=>pO (x ls env) fun s=>qy 1 (len' s) (bytesOf s) fun b=>some (.sliceU nid 0 (len' s) 1,some b)
def F3 (nid es:Nat)(x:j3)(lo:Nat)(hi:Option Nat):LR:=
 vSl x (bi (Nat.beq lo 0) (Option.rec (some (.nilSlice,none)) (fun h=>bi (Nat.beq h 0) (some (.nilSlice,none)) none) hi) none)
  (fun id off len cap=>Option.rec (known id off cap len) (fun h=>known id off cap h) hi)
  (fun id off len es'=>Option.rec (unk id off len es' len) (fun h=>unk id off len es' h) hi)
where
 known (id off cap h:Nat):LR:=bi (Nat.ble lo h) (bi (Nat.ble h cap)
  (some (.slice id (bi (Nat.beq lo cap) off (Nat.add off (Nat.mul lo es))) (Nat.sub h lo) (Nat.sub cap lo),none)) none) none
 unk (id off len es' h:Nat):LR:=bi (Nat.ble lo h) (bi (Nat.ble h len) (bi (Nat.beq es es')
  (bi (Nat.blt lo len) (some (.sliceU id (Nat.add off (Nat.mul lo es)) (Nat.sub h lo) es,none))
   (bi (Nat.beq lo 0) (some (.sliceU id off (Nat.sub h lo) es,none)) (some (.sliceU nid 0 0 es,some (.tail id))))) none) none) none
def lSl (es:Nat)(x:OF)(lo hi:Option OF):LF:=fun ls env nid=>aH lo 0 ls env fun l=>
 Option.rec (F3 nid es (x ls env) l none) (fun h=>kU (h ls env) fun h=>F3 nid es (x ls env) l (some h)) hi
def trL:LOp→LF
 | .alloc zero=>bO zero
 | .box x=>Ny (trO x)
 | .allocT ty zero=>EB ty zero
 | .boxT ty k x=>Ov ty k (trO x)
 | .buildSlice es len zero ps=>F6 es len zero (CP ps)
 | .mkMap=>iQ
 | .mkSlice es bytes zero l c=>Bq es bytes zero (trO l) (trO c)
 | .strBytes x=>qz (trO x)
 | .sl es x lo hi=>lSl es (trO x) (ny lo) (ny hi)
structure VM where
 v:j3
 m:Mem
abbrev iR:=Option (List VM)
abbrev y8:=Fn→List j3→Mem→iR
abbrev EF:=y8→List j3→T j3→Mem→iR
def one (v:j3)(m:Mem):iR:=some [⟨v,m⟩]
def C9 (size:Nat)(a x:OF):EF:=fun _ ls env m=>iP (a ls env) fun id off=>
 bi (Nat.beq (len' (x ls env).cells) size) (storeAt m id off (x ls env).cells fun m'=>one .undef m') none
def vE (size:Nat)(a x b:OF):EF:=fun cf ls env m=>iP (a ls env) fun i _=>iP (b ls env) fun j _=>bi (Nat.beq i j) none (C9 size a x cf ls env m)
def Y0 (es:List (j3×j3))(k v:j3):Nat→List (j3×j3):=
 List.rec (fun _=>[]) (fun e es ih i=>Nat.rec ((k,v)::es) (fun j _=>e::ih j) i) es
def iT (m:Mem)(id:Nat)(k:j3)(es:List (j3×j3)):iR:=match m.get id with
 | some (.mapU _)=>pO k fun _=>one .undef (m.set id (.mapU es))
 | _=>one .undef (m.set id (.map es))
def y5 (f:EqF)(n:Nat)(mp k x:OF):EF:=fun _ ls env m=>zH (mp ls env) none fun id=>bi (Nat.blt id m.lim) none
 (JW (m.get id) fun es=>ob (I6 f n (k ls env) es) fun r=>
  Option.rec (iT m id (k ls env) (dz es [(k ls env,x ls env)])) (fun p=>ob (sW p.1 es) fun e=>
   bi (Nat.beq (len' e.1.cells) n) (iT m id (k ls env) (Y0 es (k ls env) (x ls env) p.1)) none) r)
def iU (x:OF):EF:=fun _ ls env m=>zH (x ls env) (one (.ptr m.next 0) (m.new (.iter none 0 [])))
 fun id=>vEs (m.get id) fun es=>one (.ptr m.next 0) (m.new (.iter (some id) (len' es) []))
def vF (n:Nat)(l:List Nat):Bool:=List.rec false (fun x _ ih=>bi (Nat.beq x n) true ih) l
def nexts (m:Mem)(id mp since:Nat)(seen:List Nat)(es:List (j3×j3)):Nat→List VM:=
 List.rec (fun _=>[]) (fun e _ ih i=>bi (vF i seen) (ih (Nat.succ i))
  (⟨.tuple [.bool true,e.1,e.2],m.set id (.iter (some mp) since (i::seen))⟩::ih (Nat.succ i))) es
def Br (m:Mem)(l:List VM):List VM:=List.rec [⟨.tuple [.bool false],m⟩] (fun x xs _=>x::xs) l
def xw (it:OF):EF:=fun _ ls env m=>iP (it ls env) fun id off=>bi (Nat.beq off 0) (bi (Nat.blt id m.lim) none
 (CQ (m.get id) (one (.tuple [.bool false]) m) fun mp since seen=>vEs (m.get mp) fun es=>
  bi (Nat.beq (len' es) since) (some (Br m (nexts m id mp since seen es 0))) none)) none
def big (n bytes es:Nat):Bool:=bi (Nat.ble (Nat.mul (Nat.add (Nat.mul 2 n) 2048) bytes) 281474976710656) (bi (Nat.ble 1 es) (Nat.ble 1 bytes) false) false
def grown (m:Mem)(es n:Nat)(cells:List j3):iR:=qy es n cells fun b=>one (.sliceU m.next 0 n es) (m.new b)
def Ow (m:Mem)(es bytes n:Nat)(new:List j3):iR:=
 Nat.rec (one .nilSlice m) (fun _ _=>bi (big n bytes es) (grown m es n new) none) n
def vG (m:Mem)(es bytes n:Nat)(new:List j3)(id off len cap:Nat):iR:=
 bi (Nat.ble (Nat.add len n) cap) (bN m id (Nat.add off (Nat.mul len es)) new fun m'=>one (.slice id off (Nat.add len n) cap) m')
  (bi (big (Nat.add len n) bytes es) (ob (I7 m id off (Nat.mul len es)) fun old=>grown m es (Nat.add len n) (dz old new)) none)
def EC (b:Option Blk)(c:Nat→Nat→T (List j3)→Option β)(k:Nat→Option β):Option β:=match b with
 | some (.cells rs n rows)=>c rs n rows
 | some (.tail p)=>k p
 | _=>none
def JZ (m:Mem)(es bytes n:Nat)(new:List j3)(id off len es':Nat):iR:=
 Nat.rec (one (.sliceU id off len es') m) (fun _ _=>bi (Nat.beq es es') (bi (big (Nat.add len n) bytes es) (bi (Nat.ble m.lim id) (bi (G7 new)
  (EC (m.get id)
   (fun rs k rows=>
    bi (bi (Nat.beq rs es) (bi (Nat.beq off 0) (bi (Nat.ble len k) (bi (Nat.beq n 1) (bi (Nat.beq (len' new) es) (Nat.blt 0 len) false) false) false) false) false)
     (one (.sliceU m.next 0 (Nat.succ len) es) ((m.set id .dead).new (.cells es (Nat.succ len) (rows.put len new))))
     (ob (H7 rs k rows (Nat.mul len es) off) fun old=>grown (m.set id .dead) es (Nat.add len n) (dz old new)))
   (fun p=>K5 (m.get p) fun _ _ _=>bi (Nat.ble m.lim p) (bi (Nat.beq len 0) (grown (m.set p .dead) es n new) none) none)) none) none) none) none) n
def CS (m:Mem)(es bytes n:Nat)(new:List j3)(s:j3):iR:=
 vSl s (Ow m es bytes n new) (fun a b c d=>vG m es bytes n new a b c d) (fun a b c d=>JZ m es bytes n new a b c d)
def tX (es bytes:Nat)(s x:OF):EF:=fun _ ls env m=>ob (lenOf (x ls env)) fun n=>ob (cK m es n (x ls env)) fun new=>CS m es bytes n new (s ls env)
def Ox (es:Nat)(zero:List j3)(bytes:Nat)(s x:OF):EF:=fun _ ls env m=>kU (x ls env) fun n=>
 bi (Nat.ble (Nat.mul n bytes) 281474976710656) (bi (Nat.blt n 9223372036854775808) (CS m es bytes n (I4 zero n) (s ls env)) none) none
def KP (es:Nat)(d s:OF):EF:=fun _ ls env m=>ob (lenOf (s ls env)) fun n=>
 vSl (d ls env) (one (.int .i64 0) m) (fun id off len _=>go m n id off len (s ls env)) (fun id off len _=>go m n id off len (s ls env))
where
 go (m:Mem) (n id off len:Nat) (s:j3):iR:=ob (cK m es (Nat.min n len) s) fun cells=>bN m id off cells fun m'=>one (.int .i64 (.ofNat (Nat.min n len))) m'
def Bt (zero:List j3)(x:OF):EF:=fun _ ls env m=>
 vSl (x ls env) (one (.tuple []) m) (fun id off len _=>bN m id off (I4 zero len) fun m'=>one (.tuple []) m')
  (fun id off len _=>bN m id off (I4 zero len) fun m'=>one (.tuple []) m')
def o8 (f:FuncId)(args:List OF):EF:=fun cf ls env m=>cf (.func f) (evs args ls env) m
def KQ (cf:y8)(m:Mem)(args:List j3)(v:j3):iR:=JU v fun fn a b=>match fn with
 | .func f=>cf (.func f) (dz a (dz args b)) m
 | .yield l=>cf (.yield l) (dz a args) m
 | _=>none
def U1 (f:OF)(args:List OF):EF:=fun cf ls env m=>KQ cf m (evs args ls env) (f ls env)
def Rw (v:j3)(m:Mem):iR:=match v with
 | .iface t x=>one (.pan (.iface t x)) m
 | _=>none
def Bu (b:Option Blk)(k:List UInt8→Nat→Option β):Option β:=match b with
 | some (.siter s pos)=>k s pos
 | _=>none
def qA (x:OF):EF:=fun _ ls env m=>pO (x ls env) fun s=>one (.ptr m.next 0) (m.new (.siter s 0))
def tY (it:OF):EF:=fun _ ls env m=>iP (it ls env) fun id off=>bi (Nat.beq off 0) (bi (Nat.blt id m.lim) none
 (Bu (m.get id) fun s pos=>bi (Nat.blt pos (len' s))
  ((fun (r:Nat×Nat)=>one (.tuple [.bool true,.int .i64 (.ofNat pos),.int .i32 (.ofNat r.1)]) (m.set id (.siter s (Nat.add pos r.2)))) (Utf8.decode ⟨s.toArray⟩ pos))
  (one (.tuple [.bool false]) m))) none
def ED (ty:Nat)(s x:OF):EF:=fun cf ls env m=>match s ls env with
 | .nilSlice=>pO (x ls env) fun t=>List.rec (one .nilSlice m) (fun _ _ _=>bi (big (len' t) 1 1) (one (.sliceU m.next 0 (len' t) 1) (m.new (.buf ty t))) none) t
 | .sliceU id off len es=>match m.get id with
  | some (.buf ty' s0)=>pO (x ls env) fun t=>bi (Nat.beq ty ty') (bi (Nat.beq off 0) (bi (Nat.beq es 1) (bi (Nat.beq len (len' s0)) (bi (Nat.ble m.lim id) (List.rec (one (.sliceU id off len es) m) (fun _ _ _=>bi (big (Nat.add len (len' t)) 1 1) (one (.sliceU m.next 0 (Nat.add len (len' t)) 1) ((m.set id .dead).new (.buf ty (dz s0 t)))) none) t) none) none) none) none) none
  | _=>tX 1 1 s x cf ls env m
 | _=>tX 1 1 s x cf ls env m
def Tv (v:j3)(k:Nat→Option β):Option β:=match v with
 | .int .i64 (.ofNat n)=>k n
 | _=>none
def Oy (ty:Nat)(p n:OF):EF:=fun _ ls env m=>Tv (n ls env) fun k=>match p ls env with
 | .nilPtr=>bi (Nat.beq k 0) (one (.str []) m) none
 | .ptr id off=>bi (Nat.beq off 0) (bi (Nat.ble m.lim id) (match m.get id with
  | some (.buf ty' s)=>bi (Nat.beq ty ty') (bi (Nat.beq k (len' s)) (bi (Nat.ble k 9223372036854775807) (one (.str s) (m.set id .dead)) none) none) none
  | _=>none) none) none
 | _=>none
def Bv (x:OF):EF:=fun _ ls env m=>Rw (x ls env) m
def Rx:EF:=fun _ _ _ _=>none
def trE:EOp→EF
 | .store size a x=>C9 size (trO a) (trO x)
 | .storeAp size a x b=>vE size (trO a) (trO x) (trO b)
 | .mapSet kk m k x=>y5 (pR kk) (CR kk) (trO m) (trO k) (trO x)
 | .range x=>iU (trO x)
 | .next it=>xw (trO it)
 | .app es zeros zero bytes s x=>match zeros with
  | true=>Ox es zero bytes (trO s) (trO x)
  | false=>tX es bytes (trO s) (trO x)
 | .copy es d s=>KP es (trO d) (trO s)
 | .clear zero x=>Bt zero (trO x)
 | .call f args=>o8 f (iE args)
 | .callv f args=>U1 (trO f) (iE args)
 | .panic x=>Bv (trO x)
 | .defer _ _=>Rx
 | .recover=>Rx
 | .bad=>Rx
 | .rangeS x=>qA (trO x)
 | .nextS it=>tY (trO it)
 | .appB ty s x=>ED ty (trO s) (trO x)
 | .ustr ty p n=>Oy ty (trO p) (trO n)
def zN (f:α→Option (List β))(l:List α):Option (List β):=
 List.rec (some []) (fun a _ ih=>ob (f a) fun x=>ob ih fun y=>some (x++y)) l
def bnd (x:Option (List α))(f:α→Option (List β)):Option (List β):=
 Option.rec none (fun l=>List.rec (some []) (fun a t _=>List.rec (f a) (fun _ _ _=>zN f l) t) l) x
structure EM where
 env:T j3
 m:Mem
 px:Option j3
 mks:List Mk
def fM (v:j3)(p:j3→β)(q:β):β:=match v with
 | .pan x=>p x
 | _=>q
abbrev RC:=y8→List j3→T j3→Mem→Option (List EM)
def j6:RC:=fun _ _ env m=>some [⟨env,m,none,[]⟩]
def rcP (f:PF)(d:j3→T j3→T j3)(k:RC):RC:=fun cf ls env m=>Option.rec none (fun v=>k cf (v::ls) (d v env) m) (f ls env)
def j5 (f:PF)(k:RC):RC:=fun cf ls env m=>Option.rec none (fun v=>k cf (v::ls) env m) (f ls env)
def rcR (f:RF)(d:j3→T j3→T j3)(k:RC):RC:=fun cf ls env m=>Option.rec none (fun v=>k cf (v::ls) (d v env) m) (f ls env m)
def A9 (f:RF)(k:RC):RC:=fun cf ls env m=>Option.rec none (fun v=>k cf (v::ls) env m) (f ls env m)
def iM (m:Mem)(b:Option Blk):Mem:=Option.rec m (fun b=>m.new b) b
def rcL (f:LF)(d:j3→T j3→T j3)(k:RC):RC:=fun cf ls env m=>ob (f ls env m.next) fun r=>k cf (r.1::ls) (d r.1 env) (iM m r.2)
def eX (f:LF)(k:RC):RC:=fun cf ls env m=>Option.rec none (fun r=>k cf (r.1::ls) env (iM m r.2)) (f ls env m.next)
def u6 (f:EF)(k:RC):RC:=fun cf ls env m=>bnd (f cf ls env m) fun r=>fM r.v (fun x=>some [⟨env,r.m,some x,[]⟩]) (k cf (r.v::ls) env r.m)
def rcE (f:EF)(d:j3→T j3→T j3)(k:RC):RC:=fun cf ls env m=>bnd (f cf ls env m) fun r=>fM r.v (fun x=>some [⟨env,r.m,some x,[]⟩]) (k cf (r.v::ls) (d r.v env) r.m)
def EG (f:OF)(args:List OF):RC:=fun _ ls env m=>JU (f ls env) fun fn a b=>some [⟨env,m,none,[.d (.func fn a b) (evs args ls env)]⟩]
def isB (w:Bool)(v:j3):Bool:=match v with
 | .bool b=>xk b w
 | _=>false
def gP (x:OF)(w:Bool)(f:PF):PF:=fun ls env=>bi (isB w (x ls env)) (f ls env) (some .undef)
def gRd (x:OF)(w:Bool)(f:RF):RF:=fun ls env m=>bi (isB w (x ls env)) (f ls env m) (some .undef)
def gLk (x:OF)(w:Bool)(f:LF):LF:=fun ls env i=>bi (isB w (x ls env)) (f ls env i) (some (.undef,none))
def gE (x:OF)(w:Bool)(f:EF):EF:=fun cf ls env m=>bi (isB w (x ls env)) (f cf ls env m) (one .undef m)
def Ej (g:Option (Opd×Bool))(f:PF):PF:=match g with
 | none=>f
 | some (x,w)=>gP (trO x) w f
def Bw (g:Option (Opd×Bool))(f:RF):RF:=match g with
 | none=>f
 | some (x,w)=>gRd (trO x) w f
def KR (g:Option (Opd×Bool))(f:LF):LF:=match g with
 | none=>f
 | some (x,w)=>gLk (trO x) w f
def Ir (g:Option (Opd×Bool))(f:EF):EF:=match g with
 | none=>f
 | some (x,w)=>gE (trO x) w f
def trI (o:AOp)(d:Option Nat)(g:Option (Opd×Bool))(k:RC):RC:=match o with
 | .p o=>match d with
  | none=>j5 (Ej g (trP o)) k
  | some j=>rcP (Ej g (trP o)) (trD (some j)) k
 | .r o=>match d with
  | none=>A9 (Bw g (trR o)) k
  | some j=>rcR (Bw g (trR o)) (trD (some j)) k
 | .a o=>match d with
  | none=>eX (KR g (trL o)) k
  | some j=>rcL (KR g (trL o)) (trD (some j)) k
 | .e o=>match d with
  | none=>u6 (Ir g (trE o)) k
  | some j=>rcE (Ir g (trE o)) (trD (some j)) k
def kZ (i:Inst):Option (Opd×List Opd):=match i.op,i.guard,i.dst with
 | .e (.defer f as),none,none=>some (f,as)
 | _,_,_=>none
def xA (i:Inst):RC:=match kZ i with
 | some p=>EG (trO p.1) (iE p.2)
 | none=>trI i.op i.dst i.guard j6
def V5:List Inst→RC
 | []=>j6
 | [i]=>xA i
 | i::j::l=>trI i.op i.dst i.guard (V5 (j::l))
def mZ (f:Opd→Opd):POp→POp
 | .mov x=>.mov (f x)
 | .pick a b c=>.pick (f a) (f b) (f c)
 | .build z ps=>.build z (ps.map fun p=>(p.1,p.2.1,f p.2.2))
 | .nilCheck x=>.nilCheck (f x)
 | .ib o x y=>.ib o (f x) (f y)
 | .eq n k x y=>.eq n k (f x) (f y)
 | .not x=>.not (f x)
 | .neg x=>.neg (f x)
 | .inv x=>.inv (f x)
 | .conv k x=>.conv k (f x)
 | .mkIface t x=>.mkIface t (f x)
 | .mkFunc g a b=>.mkFunc g (a.map f) (b.map f)
 | .slStr x a b=>.slStr (f x) (a.map f) (b.map f)
 | .slArr e n x a b=>.slArr e n (f x) (a.map f) (b.map f)
 | .fAddr o x=>.fAddr o (f x)
 | .fld o s x=>.fld o s (f x)
 | .iAddr e x i=>.iAddr e (f x) (f i)
 | .iAddrArr e n x i=>.iAddrArr e n (f x) (f i)
 | .iArr e n s x i=>.iArr e n s (f x) (f i)
 | .iStr x i=>.iStr (f x) (f i)
 | .ext x i=>.ext (f x) i
 | .len x=>.len (f x)
 | .lenS x=>.lenS (f x)
 | .cap x=>.cap (f x)
 | .mm m x xs=>.mm m (f x) (xs.map f)
 | .assert t z ok x=>.assert t z ok (f x)
def CU (f:Opd→Opd):ROp→ROp
 | .load s a=>.load s (f a)
 | .look k z o m x=>.look k z o (f m) (f x)
 | .lenM x=>.lenM (f x)
 | .bytesStr x=>.bytesStr (f x)
 | .entry x=>.entry (f x)
 | .slData x=>.slData (f x)
 | .toUns x=>.toUns (f x)
 | .fromUns l x=>.fromUns l (f x)
def Iu (f:Opd→Opd):LOp→LOp
 | .alloc z=>.alloc z
 | .box x=>.box (f x)
 | .allocT t z=>.allocT t z
 | .boxT t k x=>.boxT t k (f x)
 | .buildSlice e l z ps=>.buildSlice e l z (ps.map fun p=>(p.1,p.2.1,f p.2.2))
 | .mkMap=>.mkMap
 | .mkSlice e b z l c=>.mkSlice e b z (f l) (f c)
 | .strBytes x=>.strBytes (f x)
 | .sl e x a b=>.sl e (f x) (a.map f) (b.map f)
def wW (f:Opd→Opd):EOp→EOp
 | .store s a x=>.store s (f a) (f x)
 | .storeAp s a x b=>.storeAp s (f a) (f x) (f b)
 | .mapSet k a b c=>.mapSet k (f a) (f b) (f c)
 | .range x=>.range (f x)
 | .next x=>.next (f x)
 | .app e z zs b s x=>.app e z zs b (f s) (f x)
 | .copy e d s=>.copy e (f d) (f s)
 | .clear z x=>.clear z (f x)
 | .call g a=>.call g (a.map f)
 | .callv g a=>.callv (f g) (a.map f)
 | .defer g a=>.defer (f g) (a.map f)
 | .panic x=>.panic (f x)
 | .recover=>.recover
 | .bad=>.bad
 | .rangeS x=>.rangeS (f x)
 | .nextS x=>.nextS (f x)
 | .appB t s x=>.appB t (f s) (f x)
 | .ustr t p n=>.ustr t (f p) (f n)
def mapA (f:Opd→Opd):AOp→AOp
 | .p o=>.p (mZ f o)
 | .r o=>.r (CU f o)
 | .a o=>.a (Iu f o)
 | .e o=>.e (wW f o)
def bump:Opd→Opd
 | .loc k=>.loc (k+1)
 | x=>x
def rn (r:List Opd):Opd→Opd
 | .loc k=>r.getD k (.con .undef)
 | x=>x
def qB (j:Nat):List Inst→Bool
 | []=>false
 | i::l=>i.dst==some j||qB j l
def iG (r:List Opd):List Inst→List Inst
 | []=>[]
 | i::l=>
  let keep:=⟨mapA (rn r) i.op,i.dst,i.guard.map fun p=>(rn r p.1,p.2)⟩::iG (.loc 0::r.map bump) l
  match i.op,i.dst,i.guard with
  | .p (.mov x),none,none=>match rn r x with
   | .slot j=>bif qB j l then keep else iG (.slot j::r) l
   | y=>iG (y::r) l
  | _,_,_=>keep
def El (f:j3→j3→Bool)(a:List j3):List j3→Bool:=
 List.rec (fun b=>List.rec true (fun _ _ _=>false) b) (fun x _ ih b=>List.rec false (fun y ys _=>bi (f x y) (ih ys) false) b) a
def jW (n:Nat):j3→j3→Bool:=Nat.rec (fun _ _=>false) (fun _ ih x y=>match x,y with
  | .bool a,.bool b=>xk a b
  | .int k a,.int k' b=>bi (kEq k k') (aG a b) false
  | .str a,.str b=>strEq a b
  | .nilPtr,.nilPtr=>true
  | .ptr a b,.ptr c d=>bi (Nat.beq a c) (Nat.beq b d) false
  | .nilSlice,.nilSlice=>true
  | .slice a b c d,.slice a' b' c' d'=>bi (Nat.beq a a') (bi (Nat.beq b b') (bi (Nat.beq c c') (Nat.beq d d') false) false) false
  | .sliceU a b c d,.sliceU a' b' c' d'=>bi (Nat.beq a a') (bi (Nat.beq b b') (bi (Nat.beq c c') (Nat.beq d d') false) false) false
  | .nilMap,.nilMap=>true
  | .map a,.map b=>Nat.beq a b
  | .nilFunc,.nilFunc=>true
  | .func (.func f) a b,.func (.func g) c d=>bi (Nat.beq f g) (bi (El ih a c) (El ih b d) false) false
  | .func (.yield f) a b,.func (.yield g) c d=>bi (Nat.beq f g) (bi (El ih a c) (El ih b d) false) false
  | .nilIface,.nilIface=>true
  | .iface t a,.iface u b=>bi (Nat.beq t u) (ih a b) false
  | .agg a,.agg b=>El ih a b
  | .tuple a,.tuple b=>El ih a b
  | .undef,.undef=>true
  | _,_=>false) n
abbrev DC:=y8→Nat→List j3→T j3→Mem→List Mem→Option (List EM)
def stable (f:RF)(ls:List j3)(env:T j3)(v:j3)(n:Nat):List Mem→Bool:=
 Nat.rec (fun _=>true) (fun _ ih gs=>List.rec false (fun m ms _=>bi (Option.rec false (fun u=>jW 100 u v) (f ls env m)) (ih ms) false) gs) n
def tl (l:List Mem):List Mem:=List.rec [] (fun _ t _=>t) l
def bP:DC:=fun _ _ _ env m _=>some [⟨env,m,none,[]⟩]
def dcP (f:PF)(d:j3→T j3→T j3)(k:DC):DC:=fun cf b ls env m gs=>ob (f ls env) fun v=>k cf b (v::ls) (d v env) m gs
def hd (m:Mem)(gs:List Mem):Mem:=List.rec m (fun g _ _=>g) gs
def isVoid (b:Option Blk):Bool:=match b with
 | some .void=>true
 | _=>false
def iV (i:Nat)(gs:List Mem):Bool:=List.rec true (fun g _ ih=>bi (isVoid (g.get i)) ih false) gs
def KS (x:Option (List α))(f:α→Option β):Option β:=
 Option.rec none (fun l=>List.rec none (fun a t _=>List.rec (f a) (fun _ _ _=>none) t) l) x
def dcR (f:RF)(c:Nat)(d:j3→T j3→T j3)(k:DC):DC:=fun cf b ls env m gs=>ob (f ls env (hd m gs)) fun v=>
 bi (stable f ls env v c (tl gs)) (k cf b (v::ls) (d v env) m gs) none
def isCells (b:Option Blk):Bool:=match b with
 | some (.cells _ _ _)=>true
 | _=>false
def acX (x:OF)(c:Nat)(d:j3→T j3→T j3)(k:DC):DC:=fun cf b ls env m gs=>match x ls env with
 | .slice id _ _ _=>bi (isVoid ((hd m gs).get id)) (bi (isCells (m.get id)) (ob (U0 x ls env m) fun v=>k cf b (v::ls) (d v env) m gs) none) (dcR (U0 x) c d k cf b ls env m gs)
 | _=>dcR (U0 x) c d k cf b ls env m gs
def Tw (c:Nat)(o:ROp)(d:Option Nat)(g:Option (Opd×Bool))(k:DC):DC:=match o,g with
 | .bytesStr y,none=>acX (trO y) c (trD d) k
 | o,g=>dcR (Bw g (trR o)) c (trD d) k
def Oz (m:Mem)(i:Nat)(b:Option Blk):Mem:=Option.rec m (fun b=>m.set i b) b
def dcL (f:LF)(c:Nat)(d:j3→T j3→T j3)(k:DC):DC:=fun cf b ls env m gs=>ob (f ls env (Nat.add b c)) fun r=>
 bi (isVoid (m.get (Nat.add b c))) (bi (iV (Nat.add b c) gs) (k cf b (r.1::ls) (d r.1 env) (Oz m (Nat.add b c) r.2) gs) none) none
abbrev GF:=List j3→T j3→Bool
def Iw:GF:=fun _ _=>true
def ghF:GF:=fun _ _=>false
def ghD (k:GF):GF:=fun ls env=>k (.undef::ls) env
def ghP (f:PF)(k:GF):GF:=fun ls env=>Option.rec false (fun v=>k (v::ls) env) (f ls env)
def KT (ds:List Bool):Opd→Bool
 | .loc k=>ds.getD k false
 | _=>false
def xB (ds:List Bool)(i:Inst):Bool:=(Et i.op).any (KT ds)||(match i.guard with
 | some p=>KT ds p.1
 | none=>false)
def Bz:List (Nat×Inst)→List Bool→GF
 | [],_=>Iw
 | x::l,ds=>match x.2.dst with
  | some _=>ghF
  | none=>match x.2.op with
   | .e _=>ghD (Bz l (true::ds))
   | .a _=>ghF
   | .r _=>bif xB ds x.2 then ghD (Bz l (true::ds)) else ghF
   | .p o=>bif xB ds x.2 then ghD (Bz l (true::ds)) else ghP (Ej x.2.guard (trP o)) (Bz l (false::ds))
def Ka:List (Nat×Inst)→List Bool→Bool
 | [],_=>true
 | x::l,ds=>match x.2.dst with
  | some _=>false
  | none=>match x.2.op with
   | .e _=>Ka l (true::ds)
   | .a _=>false
   | .r _=>bif xB ds x.2 then Ka l (true::ds) else false
   | .p _=>Ka l (xB ds x.2::ds)
def Ry (o:AOp)(l:List (Nat×Inst)):GF:=match o with
 | .e (.call _ _)=>bif Ka l [true] then Bz l [true] else ghF
 | .e (.callv _ _)=>bif Ka l [true] then Bz l [true] else ghF
 | .e (.panic _)=>bif Ka l [true] then Bz l [true] else ghF
 | _=>ghF
def dcE (f:EF)(gh:GF)(d:j3→T j3→T j3)(k:DC):DC:=fun cf b ls env m gs=>KS (f cf ls env m) fun r=>
 fM r.v (fun x=>bi (gh (.undef::ls) (d .undef env)) (some [⟨env,r.m,some x,[]⟩]) none) (k cf b (r.v::ls) (d r.v env) r.m (r.m::gs))
def Tx (c:Nat)(o:AOp)(d:Option Nat)(g:Option (Opd×Bool))(gh:GF)(k:DC):DC:=match o with
 | .p o=>dcP (Ej g (trP o)) (trD d) k
 | .r o=>Tw c o d g k
 | .a o=>dcL (KR g (trL o)) c (trD d) k
 | .e o=>dcE (Ir g (trE o)) gh (trD d) k
def oG:List (Nat×Inst)→DC
 | []=>bP
 | (c,i)::l=>Tx c i.op i.dst i.guard (Ry i.op l) (oG l)
def reserve (n:Nat)(m:Mem):Mem:=Nat.rec (fun m=>m) (fun _ ih m=>ih (m.new .void)) n m
structure Out where
 x:X9
 env:T j3
 m:Mem
 marks:List Mk
 pv:Option j3
abbrev SC:=y8→Nat→Option Nat→T j3→Mem→List Mk→Option (List Out)
def qC (x:X9)(env:T j3)(m:Mem)(k:List Mk):Option (List Out):=some [⟨x,env,m,k,none⟩]
def l7:SC:=fun _ _ _ env m k=>qC .normal env m k
def bQ (k:List Mk)(e:EM):Option (List Out):=
 Option.rec (qC .normal e.env e.m (dz e.mks k)) (fun x=>some [⟨.ret,e.env,e.m,dz e.mks k,some x⟩]) e.px
def j4 (r:RC):SC:=fun cf _ _ env m k=>bnd (r cf [] env m) (bQ k)
def BA (r:RC):SC:=fun cf _ ir env m k=>Option.rec (bnd (r cf [] env m) (bQ k)) (fun _=>none) ir
def dO:List Inst→Bool
 | []=>false
 | i::l=>(kZ i).isSome||dO l
def K6 (n:Nat)(r:DC):SC:=fun cf _ _ env m k=>bnd (r cf m.next [] env (reserve n m) [reserve n m]) (bQ k)
def d9 (a b:SC):SC:=fun cf fuel ir env m k=>bnd (a cf fuel ir env m k) fun o=>X9.rec (b cf fuel ir o.env o.m o.marks) (fun _=>some [o]) (some [o]) o.x
def l5 (c:OF)(a b:SC):SC:=fun cf fuel ir env m k=>kV (c [] env) fun t=>bi t (a cf fuel ir env m k) (b cf fuel ir env m k)
def o7 (id:Nat)(a:SC):SC:=fun cf fuel ir env m k=>bnd (a cf fuel ir env m k) fun o=>
 X9.rec (some [o]) (fun id'=>bi (Nat.beq id id') (qC .normal o.env o.m o.marks) (some [o])) (some [o]) o.x
def aD (body:T j3→Mem→List Mk→Option (List Out))(n:Nat):T j3→Mem→List Mk→Option (List Out):=
 Nat.rec (fun _ _ _=>none) (fun _ ih env m k=>bnd (body env m k) fun o=>X9.rec (ih o.env o.m o.marks) (fun _=>some [o]) (some [o]) o.x) n
def D9 (a:SC):SC:=fun cf fuel ir env m k=>aD (fun env m k=>a cf fuel ir env m k) fuel env m k
def lg (id:Nat):SC:=fun _ _ _ env m k=>qC (.exit id) env m k
def o9:SC:=fun _ _ _ env m k=>qC .ret env m k
def lq (b:Option Blk)(f:LoopState→Option X9→T j3→List (Option Nat)→M6→M6→Option β):Option β:=match b with
 | some (.loop st pend env params assign body)=>f st pend env params assign body
 | _=>none
def KU (cf:y8)(m:Mem)(args:List j3)(v:j3):iR:=JU v fun fn a b=>match fn with
 | .func f=>cf (.func f) (dz a (dz args b)) m
 | _=>none
def KV (cf:y8)(f:j3)(params:List (Option Nat))(assign body:M6)(env:T j3)(m:Mem)(k:List Mk):Option (List Out):=
 bnd (KU cf (m.new (.loop .ready none env params assign body)) [.func (.yield m.next) [] []] f) fun r=>fM r.v (fun _=>none) <|
  lq (r.m.get m.next) fun st pend _ _ _ _=>match st with
   | .busy=>none
   | _=>match pend with
    | none=>qC .normal env (r.m.set m.next .dead) k
    | some x=>qC x env (r.m.set m.next .dead) k
def zO (f:OF)(params:List (Option Nat))(assign body:M6):SC:=fun cf _ ir env m k=>
 Option.rec (KV cf (f [] env) params assign body env (m.new .deferred) (.c m.next::k))
  (fun l=>lq (m.get l) fun _ _ _ _ _ _=>KV cf (f [] env) params assign body env m k) ir
def trC:M6→SC
 | .skip=>l7
 | .reg ops=>bif dO ops then BA (V5 ops) else j4 (V5 (iG [] ops))
 | .dreg n ops=>K6 n (oG ops)
 | .dreg2 n ops t=>d9 (K6 n (oG ops)) (j4 (V5 t))
 | .seq a b=>d9 (trC a) (trC b)
 | .cond c a b=>l5 (trO c) (trC a) (trC b)
 | .block id a=>o7 id (trC a)
 | .loop a=>D9 (trC a)
 | .exit id=>lg id
 | .ret=>o9
 | .rangeFunc f params assign body=>zO (trO f) params assign body
def Q0 (js:List (Option Nat)):List j3→T j3→Option (T j3):=
 List.rec (fun vs env=>List.rec (some env) (fun _ _ _=>none) vs) (fun j _ ih vs env=>List.rec none (fun v vs _=>ih vs (trD j v env)) vs) js
def results (rs:List sV)(env:T j3)(m:Mem):Option (List j3):=
 List.rec (some []) (fun r _ ih=>ob (match r with
  | .tmp j=>T.get env j
  | .cell j size=>ob (T.get env j) fun p=>iP p fun id off=>K5 (m.get id) fun rs n rows=>match size with
   | none=>cell1 rs n rows off
   | some k=>ob (eT rs n rows off k) fun l=>some (.agg l)) fun v=>ob ih fun l=>some (v::l)) rs
def result (l:List j3):j3:=List.rec (.tuple l) (fun v t _=>List.rec v (fun _ _ _=>.tuple l) t) l
def Rz (b:Option Blk)(k:Option β):Option β:=match b with
 | some .deferred=>k
 | _=>none
abbrev fO:=FuncId→List j3→Option j3→Mem→Option (List (Mem×Option j3))
def Kc (dcf:fO)(v:j3)(args:List j3)(md:Option j3)(m:Mem):Option (List (Mem×Option j3)):=JU v fun fn a b=>match fn with
 | .func f=>dcf f (dz a (dz args b)) md m
 | _=>none
def xC (dcf:fO)(fin:Option j3→Mem→iR):List Mk→Option j3→Mem→iR:=
 List.rec (fun md m=>fin md m) (fun x _ ih md m=>match x with
  | .c id=>Rz (m.get id) (ih md (m.set id .dead))
  | .d v args=>bnd (Kc dcf v args md m) fun r=>ih r.2 r.1)
def qD (rs:List sV)(env:T j3)(md:Option j3)(m:Mem):iR:=
 Option.rec (ob (results rs env m) fun l=>one (result l) m) (fun x=>one (.pan x) m) md
def leave (dcf:fO)(rs:List sV)(o:Out):iR:=X9.rec (xC dcf (qD rs o.env) o.marks none o.m) (fun _=>none) (xC dcf (qD rs o.env) o.marks o.pv o.m) o.x
def roundEnd (l:Nat)(o:Out):iR:=match o.marks,o.pv with
 | _ :: _,_=>none
 | _,some _=>none
 | [],none=>lq (o.m.get l) fun st pend env params assign body=>match st,pend with
  | .busy,none=>match o.x with
   | .normal=>one (.bool true) (o.m.set l (.loop .ready none env params assign body))
   | x=>one (.bool false) (o.m.set l (.loop .done (some x) env params assign body))
  | _,_=>none
mutual
def Ii (lo:Nat):j3→List Nat
 | .ptr i _ | .slice i _ _ _ | .sliceU i _ _ _ | .map i=>bi (Nat.ble lo i) [i] []
 | .func _ a b=>xD lo a++xD lo b
 | .iface _ v=>Ii lo v
 | .agg l=>xD lo l
 | .tuple l=>xD lo l
 | _=>[]
def xD (lo:Nat):List j3→List Nat
 | []=>[]
 | v::l=>Ii lo v++xD lo l
end
inductive NB where
 | cells (rs:Nat) (rows:List (List j3))
 | map (es:List (j3×j3))
 | tail (p:Nat)
 | dead
 deriving Inhabited
def BD (b:Blk):Option NB:=match b with
 | .cells rs n rows=>ob (rows.slice n 0) fun l=>some (.cells rs l)
 | .map es=>some (.map es)
 | .tail p=>some (.tail p)
 | .dead=>some .dead
 | _=>none
def EH (lo:Nat):List (List j3)→List Nat
 | []=>[]
 | l::ls=>xD lo l++EH lo ls
def OA (lo:Nat):List (j3×j3)→List Nat
 | []=>[]
 | e::es=>Ii lo e.1++(Ii lo e.2++OA lo es)
def Nz (lo:Nat):NB→List Nat
 | .cells _ rows=>EH lo rows
 | .map es=>OA lo es
 | .tail p=>bi (Nat.ble lo p) [p] []
 | .dead=>[]
def CV (n:Nat)(l:List (Nat×NB)):Bool:=List.rec false (fun x _ ih=>bi (Nat.beq x.1 n) true ih) l
def reach (m:Mem)(lo n:Nat):List Nat→List (Nat×NB)→Option (List (Nat×NB)):=
 Nat.rec (fun _ _=>none) (fun _ ih work seen=>List.rec (some seen.reverse) (fun w ws _=>
  bi (CV w seen) (ih ws seen) (ob (m.get w) fun b=>ob (BD b) fun nb=>ih (Nz lo nb++ws) ((w,nb)::seen))) work) n
def placeOf (i:Nat)(l:List Nat):Nat→Option Nat:=List.rec (fun _=>none) (fun x _ ih k=>bi (Nat.beq x i) (some k) (ih (Nat.succ k))) l
mutual
def fP (r:Nat→Option Nat):j3→Option j3
 | .ptr i o=>ob (r i) fun j=>some (.ptr j o)
 | .slice i o l c=>ob (r i) fun j=>some (.slice j o l c)
 | .sliceU i o l c=>ob (r i) fun j=>some (.sliceU j o l c)
 | .map i=>ob (r i) fun j=>some (.map j)
 | .func fn a b=>match fn with
  | .yield _=>none
  | fn=>ob (nD r a) fun x=>ob (nD r b) fun y=>some (.func fn x y)
 | .iface t v=>ob (fP r v) fun x=>some (.iface t x)
 | .agg l=>ob (nD r l) fun x=>some (.agg x)
 | .tuple l=>ob (nD r l) fun x=>some (.tuple x)
 | .pan _=>none
 | v=>some v
def nD (r:Nat→Option Nat):List j3→Option (List j3)
 | []=>some []
 | v::l=>ob (fP r v) fun x=>ob (nD r l) fun y=>some (x::y)
end
def pU (r:Nat→Option Nat):List (List j3)→Option (List (List j3))
 | []=>some []
 | l::ls=>ob (nD r l) fun x=>ob (pU r ls) fun y=>some (x::y)
def Em (r:Nat→Option Nat):List (j3×j3)→Option (List (j3×j3))
 | []=>some []
 | e::es=>ob (fP r e.1) fun x=>ob (fP r e.2) fun y=>ob (Em r es) fun z=>some ((x,y)::z)
def sU (r:Nat→Option Nat):NB→Option NB
 | .cells rs rows=>ob (pU r rows) fun x=>some (.cells rs x)
 | .map es=>ob (Em r es) fun x=>some (.map x)
 | .tail p=>ob (r p) fun q=>some (.tail q)
 | .dead=>some .dead
def pV (r:Nat→Option Nat):List NB→Option (List NB)
 | []=>some []
 | p::l=>ob (sU r p) fun x=>ob (pV r l) fun y=>some (x::y)
structure CO where
 ids:List Nat
 vs:List j3
 bs:List NB
def zP (lo:Nat)(ids:List Nat)(i:Nat):Option Nat:=bi (Nat.ble lo i) (placeOf i ids lo) (some i)
def cO (lo:Nat)(vs:List j3)(m:Mem):Option CO:=
 ob (reach m lo 100000 (xD lo vs) []) fun seen=>
  ob (nD (zP lo (seen.map (·.1))) vs) fun xs=>ob (pV (zP lo (seen.map (·.1))) (seen.map (·.2))) fun bs=>some ⟨seen.map (·.1),xs,bs⟩
def aU:NB→Blk
 | .cells rs rows=>.cells rs (len' rows) (T.ofList rows)
 | .map es=>.map es
 | .tail p=>.tail p
 | .dead=>.dead
def layAll (bs:List NB):Mem→Mem:=List.rec (fun m=>m) (fun b _ ih m=>ih (m.new (aU b))) bs
def tZ:List (List j3)→List (List j3)→Bool
 | [],[]=>true
 | a::x,b::y=>bi (El (jW 100) a b) (tZ x y) false
 | _,_=>false
def CW:List (j3×j3)→List (j3×j3)→Bool
 | [],[]=>true
 | a::x,b::y=>bi (jW 100 a.1 b.1) (bi (jW 100 a.2 b.2) (CW x y) false) false
 | _,_=>false
def KX:NB→NB→Bool
 | .cells r a,.cells s b=>bi (Nat.beq r s) (tZ a b) false
 | .map a,.map b=>CW a b
 | .tail p,.tail q=>Nat.beq p q
 | .dead,.dead=>true
 | _,_=>false
def fQ:List NB→List NB→Bool
 | [],[]=>true
 | a::x,b::y=>bi (KX a b) (fQ x y) false
 | _,_=>false
structure Ans where
 v:j3
 bs:List NB
def tu (lo:Nat)(r:VM):Option Ans:=ob (cO lo [r.v] r.m) fun c=>List.rec none (fun v _ _=>some ⟨v,c.bs⟩) c.vs
def BF (lo:Nat)(l:List VM):Option Ans:=
 List.rec none (fun r rs ih=>ob (tu lo r) fun a=>List.rec (some a) (fun _ _ _=>ob ih fun b=>bi (jW 100 a.v b.v) (bi (fQ a.bs b.bs) (some a) none) none) rs) l
structure SFn where
 pure:Bool
 args:List (Option Nat)
 nslots:Nat
 results:List sV
 code:SC
 rcode:Option M6
structure Known where
 fns:FuncId→Option SFn
 base:Mem
 sum:FuncId→List j3→List NB→Option Ans
 eff:FuncId→List j3→Mem→iR
def D6 (cf:y8)(dcf:fO)(fuel:Nat)(f:SFn)(args:List j3)(m:Mem):iR:=
 ob (Q0 f.args args (T.rep .undef f.nslots .e 0)) fun env=>bnd (f.code cf fuel none env m []) (leave dcf f.results)
structure Ke where
 o:Out
 md:Option j3
def isRec (i:Inst):Bool:=match i.op,i.guard with
 | .e .recover,none=>true
 | _,_=>false
def EI:List Inst→Bool
 | []=>false
 | i::l=>isRec i||EI l
def zI:List Inst→y8→List j3→T j3→Mem→Option j3→Option (List (EM×Option j3))
 | [],_,_,env,m,md=>some [(⟨env,m,none,[]⟩,md)]
 | i::l,cf,ls,env,m,md=>match isRec i with
  | true=>match md with
   | some x=>zI l cf (x::ls) (trD i.dst x env) m none
   | none=>zI l cf (.nilIface::ls) (trD i.dst .nilIface env) m none
  | false=>match i.op with
   | .p o=>ob (Ej i.guard (trP o) ls env) fun v=>zI l cf (v::ls) (trD i.dst v env) m md
   | .r o=>ob (Bw i.guard (trR o) ls env m) fun v=>zI l cf (v::ls) (trD i.dst v env) m md
   | _=>none
def dEv:M6→y8→Nat→T j3→Mem→Option j3→Option (List Ke)
 | .seq a b,cf,fuel,env,m,md=>bnd (dEv a cf fuel env m md) fun r=>match r.o.x with
  | .normal=>match r.o.marks with
   | []=>dEv b cf fuel r.o.env r.o.m r.md
   | _=>none
  | _=>some [r]
 | .cond c a b,cf,fuel,env,m,md=>kV (trO c [] env) fun t=>bi t (dEv a cf fuel env m md) (dEv b cf fuel env m md)
 | .reg ops,cf,fuel,env,m,md=>match EI ops with
  | true=>bnd (zI ops cf [] env m md) fun r=>some [⟨⟨.normal,r.1.env,r.1.m,[],none⟩,r.2⟩]
  | false=>bnd (trC (.reg ops) cf fuel none env m []) fun o=>some [⟨o,md⟩]
 | c,cf,fuel,env,m,md=>bnd (trC c cf fuel none env m []) fun o=>some [⟨o,md⟩]
def Kg (rs:List sV)(r:Ke):Option (List (Mem×Option j3)):=match r.o.x,r.o.marks,r.o.pv with
 | .exit _,_,_=>none
 | _,[],none=>ob (results rs r.o.env r.o.m) fun _=>some [(r.o.m,r.md)]
 | _,_,_=>none
def adW (cf:y8)(fuel:Nat)(f:SFn)(args:List j3)(md:Option j3)(m:Mem):Option (List (Mem×Option j3)):=
 ob f.rcode fun c=>ob (Q0 f.args args (T.rep .undef f.nslots .e 0)) fun env=>bnd (dEv c cf fuel env m md) (Kg f.results)
def Mem.shut (m:Mem):Mem:=⟨m.t,m.next,m.next⟩
def qE (K:Known)(cf:y8)(fuel:Nat):fO:=fun f args md m=>ob (K.fns f) fun sf=>adW cf fuel sf args md m
def xE (K:Known)(cf:y8)(fuel:Nat)(f:FuncId)(sf:SFn)(args:List j3)(bs:List NB):Option Ans:=
 Option.rec (ob (D6 cf (qE K cf fuel) fuel sf args (layAll bs K.base).shut) fun l=>BF (layAll bs K.base).next l) (fun a=>some a) (K.sum f args bs)
def aX (g:Nat)(ids:List Nat)(next i:Nat):Option Nat:=
 bi (Nat.blt i g) (some i) (bi (Nat.blt (Nat.sub i g) (len' ids)) (sW (Nat.sub i g) ids) (some (Nat.add next (Nat.sub (Nat.sub i g) (len' ids)))))
def bH (K:Known)(cf:y8)(fuel:Nat)(f:FuncId)(sf:SFn)(args:List j3)(m:Mem):iR:=
 ob (cO K.base.next args m) fun c=>ob (xE K cf fuel f sf c.vs c.bs) fun a=>
  ob (fP (aX K.base.next c.ids m.next) a.v) fun v=>ob (pV (aX K.base.next c.ids m.next) a.bs) fun bs=>one v (layAll bs m)
def zQ (cf:y8)(fuel l:Nat)(args:List j3)(m:Mem):iR:=
 bi (Nat.blt l m.lim) none (lq (m.get l) fun st pend env params assign body=>match st,pend with
  | .ready,none=>ob (Q0 params args env) fun env1=>bnd (trC assign cf fuel (some l) env1 m []) fun o=>match o.x,o.marks with
   | .normal,[]=>lq (o.m.get l) fun st2 pend2 env2 params2 assign2 body2=>match st2,pend2 with
    | .ready,none=>bnd (trC body cf fuel (some l) o.env (o.m.set l (.loop .busy none env2 params2 assign2 body2)) []) (roundEnd l)
    | _,_=>none
   | _,_=>none
  | _,_=>none)
def w9 (K:Known)(fuel n:Nat):y8:=
 Nat.rec (fun _ _ _=>none) (fun _ ih fn args m=>match fn with
  | .func f=>Option.rec (ob (K.fns f) fun sf=>bi sf.pure (bH K ih fuel f sf args m) (D6 ih (qE K ih fuel) fuel sf args m)) (fun l=>some l) (K.eff f args m)
  | .yield l=>zQ ih fuel l args m
  | _=>none) n
mutual
def ofValue:Value→Option j3
 | .bool b=>some (.bool b)
 | .int k n=>some (.int k n)
 | .string s=>some (.str s.data.toList)
 | .pointer none=>some .nilPtr
 | .slice none 0 0=>some .nilSlice
 | .map none=>some .nilMap
 | .func (.func f) ⟨[]⟩ ⟨[]⟩=>some (.func (.func f) [] [])
 | .nilFunc=>some .nilFunc
 | .nilIface=>some .nilIface
 | .agg ⟨l⟩=>match ofValues l with
  | some x=>some (.agg x)
  | none=>none
 | .tuple ⟨[]⟩=>some (.tuple [])
 | _=>none
def ofValues:List Value→Option (List j3)
 | []=>some []
 | v::l=>match ofValue v,ofValues l with
  | some x,some y=>some (x::y)
  | _,_=>none
end
section
variable (P:Program)
def aS (t:TypeId):Option Nat:=(P.info? t).map (·.size)
def Z5 (t:TypeId):Option Nat:=(P.info? t).map (·.bytes)
def zJ (t:TypeId):Option Bool:=match P.underlying t with
 | some (.struct _) | some (.array _ _)=>some true
 | some _=>some false
 | none=>none
def partT (t:TypeId):Option (Option Nat):=match zJ P t,aS P t with
 | some true,some n=>some (some n)
 | some false,some _=>some none
 | _,_=>none
def nE (t:TypeId):Option (List j3):=match (P.info? t).bind (·.zero) with
 | some z=>match ofValue z with
  | some a=>some a.cells
  | none=>none
 | none=>none
def zeroV (t:TypeId):Option j3:=match (P.info? t).bind (·.zero) with
 | some z=>ofValue z
 | none=>none
def iW (f:TypeId→Option (List PK)):List Field→Nat→Option (List PK)
 | [],_=>some []
 | fd::l,off=>if fd.name≠ "_"∧fd.offset=off then match f fd.type with
   | some ks=>match iW f l (off+ks.length) with
    | some r=>some (ks++r)
    | none=>none
   | none=>none
  else none
def aI:Nat→TypeId→Option (List PK)
 | 0,_=>none
 | d+1,t=>match P.underlying t with
  | some .bool=>if aS P t=some 1 then some [.b] else none
  | some (.int _)=>if aS P t=some 1 then some [.i] else none
  | some .string=>if aS P t=some 1 then some [.s] else none
  | some (.struct fs)=>match iW (aI d) fs.toList 0 with
   | some ks=>if P.stoodInHeld t=false∧aS P t=some ks.length then some ks else none
   | none=>none
  | _=>none
def eqT (cst:Bool)(t:TypeId):Option EqK:=match P.underlying t with
 | some .bool=>some (.prim .b)
 | some (.int _)=>some (.prim .i)
 | some .string=>some (.prim .s)
 | some (.struct _)=>match aI P 10 t with
  | some k=>if P.eqGuardType P.depth t=false then some (.flat k) else none
  | none=>none
 | some (.pointer e)=>match aS P e with
  | some _=>some .ptr
  | none=>none
 | some (.slice _)=>some .slice
 | some (.map _ _)=>some .map
 | some (.func ..)=>some .func
 | some (.interface _)=>if cst then some .iface else none
 | _=>none
def RA (t:TypeId):Option EqK:=match P.underlying t with
 | some (.array n e)=>match P.underlying e with
  | some (.int _)=>if aS P e=some 1∧P.eqGuardType P.depth t=false then some (.flat (List.replicate n .i)) else none
  | _=>none
 | _=>none
def OB (cst:Bool)(t:TypeId):Option EqK:=match eqT P cst t with
 | some k=>some k
 | none=>RA P t
def En (t:TypeId):Option (List j3):=match nE P t,aS P t with
 | some z,some k=>if z.length=k then some z else none
 | _,_=>none
def OC (t:TypeId):Bool:=match P.info? t with
 | some {desc:=.named n _,..}=>n == "strings.Builder"
 | _=>false
def EJ (t:TypeId):Bool:=OC P t||(match P.underlying t with
 | some (.struct fs)=>fs.toList.any fun f=>OC P f.type
 | _=>false)
def EK (u:TypeId):List (Nat×Nat):=(List.range P.types.size).flatMap fun ty=>if EJ P ty&&P.cellsOf ty != 0 then
 ((if liesAt P P.depth ty 1 0 u 1 then [(ty,0)] else [])++(match P.underlying ty with
  | some (.struct fs)=>fs.toList.flatMap fun f=>if f.offset≠0∧liesAt P P.depth ty 1 f.offset u 1 then [(ty,f.offset)] else []
  | _=>[])) else []
def xG (e:TypeId):Bool:=(match P.underlying e with
 | some (.int .u8)=>true
 | _=>false)&&aS P e==some 1&&Z5 P e==some 1&&(En P e).isSome
def wX (t:TypeId):Option EqK:=match eqT P false t with
 | some (.prim j)=>some (.prim j)
 | some (.flat ks)=>some (.flat ks)
 | _=>none
end
def idxOf (t:Nat):List Nat→Nat→Option Nat
 | [],_=>none
 | x::l,i=>bif Nat.beq x t then some i else idxOf t l (i+1)
def dQ (t:Nat):List (Option Nat)→Nat→Option Nat
 | [],_=>none
 | some x::l,i=>bif Nat.beq x t then some i else dQ t l (i+1)
 | none::l,i=>dQ t l (i+1)
section
variable (P:Program)(slots:List Nat)(done:List (Option Nat))
def J7:Operand→Option Opd
 | .tmp t=>match dQ t done 0 with
  | some k=>some (.loc k)
  | none=>match idxOf t slots 0 with
   | some j=>some (.slot j)
   | none=>none
 | .const v=>match ofValue v with
  | some a=>some (.con a)
  | none=>none
 | .global g=>if g<P.globals.size then some (.con (.ptr g 0)) else none
 | .func f=>some (.con (.func (.func f) [] []))
def fT:List Operand→Option (List Opd)
 | []=>some []
 | x::l=>match J7 P slots done x,fT l with
  | some a,some b=>some (a::b)
  | _,_=>none
def cOpt:Option Operand→Option (Option Opd)
 | none=>some none
 | some x=>match J7 P slots done x with
  | some a=>some (some a)
  | none=>none
def tC:Operand→Bool
 | .const _=>true
 | _=>false
def oH (place:Nat→Option (Nat×Nat)):List (Nat×Operand)→Option (List (Nat×Nat×Opd))
 | []=>some []
 | p::l=>match place p.1,J7 P slots done p.2,oH place l with
  | some (o,s),some x,some r=>some ((o,s,x)::r)
  | _,_,_=>none
def placesOf:List Field→Option (List (Nat×Nat))
 | []=>some []
 | f::l=>match aS P f.type,placesOf l with
  | some s,some r=>some ((f.offset,s)::r)
  | _,_=>none
def qF (t:TypeId)(parts:List (Nat×Operand)):Option AOp:=
 match nE P t,P.underlying t with
 | some zero,some (.struct fields)=>match placesOf P fields.toList with
  | some pl=>match oH P slots done (fun i=>pl[i]?) parts with
   | some ps=>some (.p (.build zero ps))
   | none=>none
  | none=>none
 | some zero,some (.array _ elem)=>match aS P elem with
  | some s=>match oH P slots done (fun i=>some (i*s,s)) parts with
   | some ps=>some (.p (.build zero ps))
   | none=>none
  | none=>none
 | _,_=>none
def OD:TypeDesc→Bool
 | .string=>true
 | _=>false
def lu (b:Builtin)(ts:List TypeId)(args:List Operand):Option AOp:=do
 match b,ts,args with
 | .len,[t],[x]=>match ← P.underlying t with
  | .string=>do pure (.p (.lenS (← J7 P slots done x)))
  | .slice _=>do pure (.p (.len (← J7 P slots done x)))
  | .array n _=>pure (.p (.mov (.con (.int .i64 n))))
  | .map _ _=>do pure (.r (.lenM (← J7 P slots done x)))
  | _=>none
 | .cap,[t],[x]=>match ← P.underlying t with
  | .slice _=>do pure (.p (.cap (← J7 P slots done x)))
  | _=>none
 | .append,[t,u],[s,x]=>match ← P.underlying t with
  | .slice e=>do
   let d ← P.underlying u
   let zs:=match d with | .int _=>true | _=>false
   if OD d&&xG P e then pure (.e (.appB e (← J7 P slots done s) (← J7 P slots done x)))
   else pure (.e (.app (← aS P e) zs (← En P e) (← Z5 P e) (← J7 P slots done s) (← J7 P slots done x)))
  | _=>none
 | .copy,[t,_],[d,s]=>match ← P.underlying t with
  | .slice e=>do pure (.e (.copy (← aS P e) (← J7 P slots done d) (← J7 P slots done s)))
  | _=>none
 | .clear,[t],[x]=>match ← P.underlying t with
  | .slice e=>do pure (.e (.clear (← nE P e) (← J7 P slots done x)))
  | _=>none
 | .max,_,x::xs=>do pure (.p (.mm true (← J7 P slots done x) (← fT P slots done xs)))
 | .min,_,x::xs=>do pure (.p (.mm false (← J7 P slots done x) (← fT P slots done xs)))
 | .recover,[],[]=>pure (.e .recover)
 | .unsafeSliceData,[t],[x]=>match ← P.underlying t with
  | .slice _=>do pure (.r (.slData (← J7 P slots done x)))
  | _=>none
 | .unsafeString,[t,_],[p,n]=>match ← P.underlying t with
  | .pointer e=>do if xG P e then pure (.e (.ustr e (← J7 P slots done p) (← J7 P slots done n))) else none
  | _=>none
 | _,_,_=>none
def cOp (o:Op):Option AOp:=do
 let r:=J7 P slots done
 match o with
 | .move x | .assign x=>pure (.p (.mov (← r x)))
 | .pick c a b=>pure (.p (.pick (← r c) (← r a) (← r b)))
 | .alloc t=>if EJ P t then do pure (.a (.allocT t (← En P t))) else do pure (.a (.alloc (← nE P t)))
 | .box t x=>if EJ P t then do pure (.a (.boxT t (← aS P t) (← r x))) else do pure (.a (.box (← r x)))
 | .build t parts=>qF P slots done t parts.toList
 | .buildSlice t len parts=>match ← P.underlying t with
  | .slice e=>do
   let es ← aS P e
   let ps ← oH P slots done (fun i=>some (i*es,es)) parts.toList
   if len*es≤16777216 then pure (.a (.buildSlice es len (← nE P e) ps)) else none
  | _=>none
 | .load t a=>pure (.r (.load (← partT P t) (← r a)))
 | .store t a x=>pure (.e (.store (← aS P t) (← r a) (← r x)))
 | .nilCheck x=>pure (.p (.nilCheck (← r x)))
 | .binOp op t x y _=>match op with
  | .eql | .neq=>do
   let k ← OB P (tC x||tC y) t
   let neg:=match op with | .neq=>true | _=>false
   match k with
   | .prim .i=>pure (.p (.ib op (← r x) (← r y)))
   | .prim .s=>pure (.p (.ib op (← r x) (← r y)))
   | k=>pure (.p (.eq neg k (← r x) (← r y)))
  | _=>pure (.p (.ib op (← r x) (← r y)))
 | .unOp op _ x=>match op with
  | .not=>do pure (.p (.not (← r x)))
  | .neg=>do pure (.p (.neg (← r x)))
  | .xor=>do pure (.p (.inv (← r x)))
  | _=>none
 | .convert s d x=>match ← P.underlying s,← P.underlying d with
  | .int _,.int k=>do pure (.p (.conv k (← r x)))
  | .string,.slice e=>match ← P.underlying e with
   | .int .u8=>do pure (.a (.strBytes (← r x)))
   | _=>none
  | .slice e,.string=>match ← P.underlying e with
   | .int .u8=>do pure (.r (.bytesStr (← r x)))
   | _=>none
  | .pointer t,.unsafePointer=>match ← aS P t with
   | 0=>none
   | _=>do pure (.r (.toUns (← r x)))
  | .unsafePointer,.pointer u=>match ← aS P u with
   | 0=>none
   | _=>do pure (.r (.fromUns (EK P u) (← r x)))
  | _,_=>none
 | .makeInterface t x=>match ← P.underlying t with
  | .interface _=>none
  | _=>do pure (.p (.mkIface t (← r x)))
 | .makeFunc fn a b=>match fn with
  | .func f=>do pure (.p (.mkFunc (.func f) (← fT P slots done a.toList) (← fT P slots done b.toList)))
  | _=>none
 | .makeMap t res=>match res with
  | none=>pure (.a .mkMap)
  | some (.const (.int _ _))=>match P.underlying t with
   | some (.map _ _)=>pure (.a .mkMap)
   | _=>none
  | _=>none
 | .makeSlice t l c=>match ← P.underlying t with
  | .slice e=>do pure (.a (.mkSlice (← aS P e) (← Z5 P e) (← En P e) (← r l) (← r c)))
  | _=>none
 | .slice t x lo hi none=>match ← P.underlying t with
  | .string=>do pure (.p (.slStr (← r x) (← cOpt P slots done lo) (← cOpt P slots done hi)))
  | .slice e=>do pure (.a (.sl (← aS P e) (← r x) (← cOpt P slots done lo) (← cOpt P slots done hi)))
  | .array n e=>do pure (.p (.slArr (← aS P e) n (← r x) (← cOpt P slots done lo) (← cOpt P slots done hi)))
  | _=>none
 | .fieldAddr s x f=>match ← P.underlying s with
  | .struct fs=>do
   let fd ← fs[f]?
   let sz ← aS P fd.type
   if sz=0 then none else pure (.p (.fAddr fd.offset (← r x)))
  | _=>none
 | .field s x f=>match ← P.underlying s with
  | .struct fs=>do
   let fd ← fs[f]?
   pure (.p (.fld fd.offset (← partT P fd.type) (← r x)))
  | _=>none
 | .indexAddr t x i=>match ← P.underlying t with
  | .slice e=>do pure (.p (.iAddr (← aS P e) (← r x) (← r i)))
  | .array n e=>do pure (.p (.iAddrArr (← aS P e) n (← r x) (← r i)))
  | _=>none
 | .index t x i=>match ← P.underlying t with
  | .string=>do pure (.p (.iStr (← r x) (← r i)))
  | .array n e=>do pure (.p (.iArr (← aS P e) n (← partT P e) (← r x) (← r i)))
  | _=>none
 | .lookup t x k ok=>match ← P.underlying t with
  | .map kt e=>do pure (.r (.look (← wX P kt) (← zeroV P e) ok (← r x) (← r k)))
  | _=>none
 | .mapUpdate t m k x | .insert t m k x=>match ← P.underlying t with
  | .map kt _=>do pure (.e (.mapSet (← wX P kt) (← r m) (← r k) (← r x)))
  | _=>none
 | .range t x=>match ← P.underlying t with
  | .map _ _=>do pure (.e (.range (← r x)))
  | .string=>do pure (.e (.rangeS (← r x)))
  | _=>none
 | .next it false=>pure (.e (.next (← r it)))
 | .next it true=>pure (.e (.nextS (← r it)))
 | .entry it=>pure (.r (.entry (← r it)))
 | .extract x i=>pure (.p (.ext (← r x) i))
 | .typeAssert x _ t ok=>match ← P.underlying t with
  | .interface _=>none
  | _=>do pure (.p (.assert t (← zeroV P t) ok (← r x)))
 | .panic x=>pure (.e (.panic (← r x)))
 | .defer c=>match c.callee with
  | .value f=>do pure (.e (.defer (← r f) (← fT P slots done c.args.toList)))
  | _=>none
 | .call c=>match c.callee with
  | .builtin b=>lu P slots done b c.argTypes.toList c.args.toList
  | .value (.func f)=>do
   let fn ← P.funcs[f]?
   if fn.body.isSome&&fn.name != "runtime.NumGoroutine" then pure (.e (.call f (← fT P slots done c.args.toList)))
   else if fn.body.isNone&&fn.name == "internal/abi.NoEscape" && (Extern.findNext fn).isNone then match c.args.toList with
    | [x]=>do pure (.p (.mov (← r x)))
    | _=>none
   else none
  | .value f=>do pure (.e (.callv (← r f) (← fT P slots done c.args.toList)))
  | _=>none
 | _=>none
def Iy:Option Tmp→Option Nat
 | none=>none
 | some t=>idxOf t slots 0
def ng (o:Op):AOp:=match cOp P slots done o with
 | some a=>a
 | none=>.e .bad
def lD (ops:Array Oper)(i:Nat):Option (Inst×Option Nat):=do
 let o ← ops[i]?
 let a:=ng P slots done o.op
 let g ← match o.guard with
  | none=>pure none
  | some (j,w)=>do
   let og ← ops[j]?
   let d ← og.dst
   let k ← dQ d done 0
   pure (some (Opd.loc k,w))
 pure (⟨a,Iy slots o.dst,g⟩,o.dst)
end
def eY (P:Program)(slots:List Nat)(ops:Array Oper):List (Option Nat)→List Nat→Option (List Inst)
 | _,[]=>some []
 | done,i::rest=>match lD P slots done ops i with
  | some (x,d)=>match eY P slots ops (d::done) rest with
   | some l=>some (x::l)
   | none=>none
  | none=>none
def bitsOf (e:Array Edge)(acc:List Nat):Nat:=
 e.toList.foldl (fun s x=>if Region.binds .any x then s ||| (1 <<< x.on) ||| (acc.getD x.on 0) else s) 0
def masks (ops:List Oper):List Nat:=ops.foldl (fun acc o=>acc ++ [bitsOf o.after acc]) []
def mOf (ms:List Nat)(i j:Nat):Bool:=Nat.testBit (ms.getD i 0) j
def Tz:Op→Bool
 | .store .. | .mapUpdate .. | .insert .. | .range .. | .next .. | .mapEntry .. | .entryStore .. | .panic _ | .defer _ | .typeAssert ..=>true
 | .call {callee:=.builtin b,..}=>match b with
  | .append | .copy | .clear | .delete | .unsafeString=>true
  | _=>false
 | .call _=>true
 | _=>false
def CX (ops:Array Oper)(i:Nat):Bool:=
 match ops[i]? with
 | some o=>Tz o.op
 | none=>false
def canon (eff:Nat→Bool)(ms:List Nat)(n:Nat):List Nat:=
 let effs:=(List.range n).filter eff
 let step (acc:List Nat) (e:Nat):List Nat:=acc++(List.range n).filter (fun i=>!acc.contains i&&mOf ms e i) ++ [e]
 let acc:=effs.foldl (fun acc e=>if acc.contains e then acc else step acc e) []
 acc++(List.range n).filter (fun i=>!acc.contains i)
def isE (x:Inst):Bool:=match x.op with
 | .e _=>true
 | _=>false
def isA (x:Inst):Bool:=match x.op with
 | .a _=>true
 | _=>false
def isR (x:Inst):Bool:=match x.op with
 | .r _=>true
 | _=>false
def TA (ms:List Nat)(i:Nat)(x:Inst)(effs:List Nat)(nal:Nat):Nat:=
 if isR x then (effs.takeWhile fun e=>!mOf ms i e).length else nal
def numbered (ms:List Nat):List (Nat×Inst)→List Nat→Nat→List (Nat×Inst)
 | [],_,_=>[]
 | (i,x)::rest,effs,nal=>(TA ms i x effs nal,x)::numbered ms rest (if isE x then i::effs else effs) (if isA x then nal+1 else nal)
def qG (ops:Array Oper)(o:Oper):List Nat:=
 (o.op.operands.toList.filterMap fun | .tmp t=>some t | _=>none) ++
 (match o.guard with
  | some (g,_)=>((ops[g]?).bind (·.dst)).toList
  | none=>[])
def EL:List Nat→Bool
 | []=>true
 | x::l=>!l.contains x&&EL l
def zR:List Inst→Nat
 | []=>0
 | x::l=>(if isA x then 1 else 0)+zR l
def Iz (ms:List Nat)(i:Nat)(before:List (Nat×Inst)):Opd→Bool
 | .loc k=>match before[k]? with
  | some y=>mOf ms i y.1
  | none=>false
 | .slot j=>before.all fun y=>y.2.dst != some j
 | .con _=>true
def oI (ms:List Nat)(ops:Array Oper)(i:Nat)(x:Inst)(before:List (Nat×Inst)):Bool:=
 (match x.op with
  | .e _=>before.all fun y=>mOf ms i y.1
  | _=>true) &&
 (match ops[i]? with
  | some o=>(o.after.toList.all fun e=>!Region.binds .any e||before.any fun y=>y.1==e.on) &&
   ((qG ops o).all fun t=>(List.range ops.size).all fun q=>q==i||(match ops[q]? with
    | some oq=>oq.dst != some t
    | none=>true)||mOf ms i q||mOf ms q i)
  | none=>false) &&
 ((Et x.op).all fun y=>Iz ms i before y) &&
 (match x.guard with
  | some (y,_)=>Iz ms i before y
  | none=>true)
def lF (ms:List Nat)(ops:Array Oper):List (Nat×Inst)→List (Nat×Inst)→Bool
 | [],_=>true
 | y::rest,before=>oI ms ops y.1 y.2 before&&lF ms ops rest (y::before)
def Kh (ms:List Nat)(ops:Array Oper)(ord:List Nat)(insts:List Inst):Bool:=
 EL ord&&(ord.all fun i=>Nat.blt i ops.size)&&((List.range ops.size).all fun i=>ord.contains i)&&EL (ops.toList.filterMap (·.dst))&&lF ms ops (ord.zip insts) []
def vH (P:Program)(slots:List Nat)(ops:Array Oper):Option M6:=
 match eY P slots ops [] (canon (CX ops) (masks ops.toList) ops.size) with
 | none=>none
 | some insts=>
  if Kh (masks ops.toList) ops (canon (CX ops) (masks ops.toList) ops.size) insts then
   some (.dreg (zR insts) (numbered (masks ops.toList) ((canon (CX ops) (masks ops.toList) ops.size).zip insts) [] 0))
  else none
def EN:Opd→Bool
 | .loc _=>false
 | _=>true
def zS (ms:List Nat)(ops:Array Oper):Bool:=
 Nat.ble 3 ops.size &&
 ((List.range ops.size).all fun i=>match ops[i]? with
  | some o=>(o.after.toList.all fun e=>!Region.binds .any e||Nat.blt e.on i)&&o.guard.isNone
  | none=>false) &&
 ((List.range (ops.size-3)).all fun j=>mOf ms (ops.size-3) j&&mOf ms (ops.size-2) j&&mOf ms (ops.size-1) j) &&
 mOf ms (ops.size-2) (ops.size-3)
def vI (x y z:Option (Inst×Option Nat))(n:Nat)(l:List (Nat×Inst)):Option M6:=
 match x,y,z with
 | some (⟨.p po,none,none⟩,_),some (⟨.e (.store s (.loc 0) v),none,none⟩,none),some (⟨.e (.store s' a' v'),none,none⟩,none)=>
  if EN a'&&EN v' then some (.dreg2 n l [⟨.p po,none,none⟩,⟨.e (.store s (.loc 0) v),none,none⟩,⟨.e (.storeAp s' a' v' (.loc 1)),none,none⟩]) else none
 | _,_,_=>none
def EO:Option Oper→Bool
 | some o=>match o.op with
  | .store ..=>true
  | _=>false
 | none=>false
def splits (ops:Array Oper):Bool:=EO ops[ops.size-1]? && EO ops[ops.size-2]? && !mOf (masks ops.toList) (ops.size-1) (ops.size-2)
def xH (P:Program)(slots:List Nat)(ops:Array Oper):Option M6:=
 match vH P slots (ops.extract 0 (ops.size-3)) with
 | some (.dreg n l)=>
  if zS (masks ops.toList) ops then
   vI (lD P slots [] ops (ops.size-3)) (lD P slots [(ops[ops.size-3]?).bind (·.dst)] ops (ops.size-2)) (lD P slots [] ops (ops.size-1)) n l
  else none
 | _=>none
def I8 (P:Program)(slots:List Nat):Code→Option M6
 | .skip=>some .skip
 | .region _ ops false=>match eY P slots ops [] (List.range ops.size) with
  | some l=>some (.reg l)
  | none=>none
 | .region _ ops true=>if splits ops then xH P slots ops else vH P slots ops
 | .seq a b=>match I8 P slots a,I8 P slots b with
  | some x,some y=>some (.seq x y)
  | _,_=>none
 | .cond c a b=>match J7 P slots [] c,I8 P slots a,I8 P slots b with
  | some z,some x,some y=>some (.cond z x y)
  | _,_,_=>none
 | .block id a=>match I8 P slots a with
  | some x=>some (.block id x)
  | none=>none
 | .loop a=>match I8 P slots a with
  | some x=>some (.loop x)
  | none=>none
 | .exit id=>some (.exit id)
 | .ret=>some .ret
 | .rangeFunc f ps a b=>match J7 P slots [] f,I8 P slots a,I8 P slots b with
  | some z,some x,some y=>some (.rangeFunc z (ps.toList.map fun t=>idxOf t slots 0) x y)
  | _,_,_=>none
 | .refuse _=>some (.reg [⟨.e .bad,none,none⟩])
 | _=>none
def tmpsIn (nt:Nat):Code→Bool
 | .region _ ops _=>ops.toList.all fun o=>match o.dst with
  | some t=>Nat.blt t nt
  | none=>true
 | .seq a b=>tmpsIn nt a&&tmpsIn nt b
 | .cond _ a b=>tmpsIn nt a&&tmpsIn nt b
 | .block _ a=>tmpsIn nt a
 | .loop a=>tmpsIn nt a
 | .rangeFunc _ _ a b=>tmpsIn nt a&&tmpsIn nt b
 | _=>true
def Eo (P:Program)(slots:List Nat):List ResultVar→Option (List sV)
 | []=>some []
 | .tmp t::l=>match idxOf t slots 0,Eo P slots l with
  | some j,some r=>some (.tmp j::r)
  | _,_=>none
 | .cell t ty::l=>match idxOf t slots 0,partT P ty,Eo P slots l with
  | some j,some s,some r=>some (.cell j s::r)
  | _,_,_=>none
def cFn (P:Program)(slots:List Nat)(f:FuncId):Option AFn:=
 match P.funcs[f]? with
 | none=>none
 | some fn=>match fn.body with
  | none=>none
  | some c=>match I8 P slots c,Eo P slots fn.results.toList with
   | some b,some r=>
    if tmpsIn fn.ntmps c&&(slots.all fun t=>Nat.blt t fn.ntmps)&&Nat.blt slots.length 1152921504606846976&&fn.name != "runtime.NumGoroutine" then
     some ⟨fn.params.size+fn.nfree,(List.range (fn.params.size+fn.nfree)).map fun t=>idxOf t slots 0,slots.length,r,b⟩
    else none
   | _,_=>none
section
variable {α β γ:Type}
@[simp] theorem G5 (a:α)(k:α→Option β):ob (some a) k=k a:=rfl
@[simp] theorem TB (k:α→Option β):ob none k=none:=rfl
theorem r9 {o:Option α}{k:α→Option β}{b:β}(h:ob o k=some b):∃a,o=some a∧k a=some b:=by
 cases o with
 | none=>simp at h
 | some a=>exact⟨a,rfl,h⟩
@[simp] theorem H9 (x y:α):bi true x y=x:=rfl
@[simp] theorem J8 (x y:α):bi false x y=y:=rfl
theorem p9 {b:Bool}{x:Option α}{a:α}(h:bi b x none=some a):b=true∧x=some a:=by
 cases b with
 | true=>exact⟨rfl,h⟩
 | false=>simp at h
theorem dR {b:Bool}{x:Option α}{a:α}(h:bi b none x=some a):b=false∧x=some a:=by
 cases b with
 | true=>simp at h
 | false=>exact⟨rfl,h⟩
end
namespace T
variable {α:Type}
@[simp] theorem adX (i:Nat):(T.e:T α).get i=none:=rfl
@[simp] theorem RB (l:T α)(x:α)(r:T α):(T.nd l x r).get 0=some x:=rfl
theorem R7 (l:T α)(x:α)(r:T α)(i:Nat):(T.nd l x r).get (i+1)=if i%2=0 then l.get (i / 2) else r.get (i / 2):=by
 show (Nat.rec (l.get (Nat.div i 2)) (fun _ _=>r.get (Nat.div i 2)) (Nat.mod i 2):Option α)=_
 have h:Nat.mod i 2=i%2:=rfl
 rcases Nat.mod_two_eq_zero_or_one i with h0 | h1
 ·rw [h,h0];rfl
 ·rw [h,h1];rfl
@[simp] theorem TD (i:Nat)(x:α):(T.e:T α).put i x=.nd .e x .e:=rfl
@[simp] theorem BG (l:T α)(y:α)(r:T α)(x:α):(T.nd l y r).put 0 x=.nd l x r:=rfl
theorem I9 (l:T α)(y:α)(r:T α)(i:Nat)(x:α):(T.nd l y r).put (i+1) x=if i%2=0 then .nd (l.put (i / 2) x) y r else .nd l y (r.put (i / 2) x):=by
 show (Nat.rec (T.nd (l.put (Nat.div i 2) x) y r) (fun _ _=>T.nd l y (r.put (Nat.div i 2) x)) (Nat.mod i 2):T α)=_
 have h:Nat.mod i 2=i%2:=rfl
 rcases Nat.mod_two_eq_zero_or_one i with h0 | h1
 ·rw [h,h0];rfl
 ·rw [h,h1];rfl
inductive Ok:T α→Nat→Prop
 | e:Ok .e 0
 | nd {l r:T α} {x:α} {n:Nat} (hl:Ok l ((n+1) / 2)) (hr:Ok r (n / 2)):Ok (.nd l x r) (n+1)
theorem Ok.get {t:T α}{n:Nat}(h:Ok t n):∀i,(∃x,t.get i=some x)↔i<n:=by
 induction h with
 | e=>intro i;simp
 | @nd l r x n hl hr ihl ihr=>
  intro i
  cases i with
  | zero=>simp
  | succ i=>
   rw [R7]
   split
   ·rw [ihl];omega
   ·rw [ihr];omega
theorem Ok.put {t:T α}{n:Nat}(h:Ok t n):∀i (x:α),i<n→Ok (t.put i x) n:=by
 induction h with
 | e=>intro i x hi;omega
 | @nd l r y n hl hr ihl ihr=>
  intro i x hi
  cases i with
  | zero=>exact .nd hl hr
  | succ i=>
   rw [I9]
   split
   ·exact .nd (ihl _ _ (by omega)) hr
   ·exact .nd hl (ihr _ _ (by omega))
theorem Ok.push {t:T α}{n:Nat}(h:Ok t n):∀(x:α),Ok (t.put n x) (n+1):=by
 induction h with
 | e=>intro x;exact .nd .e .e
 | @nd l r y n hl hr ihl ihr=>
  intro x
  rw [I9]
  split
  ·rename_i h0
   refine .nd ?_ ?_
   ·have:=ihl x
    rw [show (n+1) / 2=n / 2 from by omega] at this
    rw [show (n+1+1) / 2=n / 2+1 from by omega];exact this
   ·rw [show (n+1) / 2=n / 2 from by omega];exact hr
  ·rename_i h0
   refine .nd ?_ ?_
   ·rw [show (n+1+1) / 2=(n+1) / 2 from by omega];exact hl
   ·have:=ihr x
    rw [show (n+1) / 2=n / 2+1 from by omega];exact this
theorem N7 {t:T α}{n:Nat}(h:Ok t n):∀i (x:α),i≤n→(t.put i x).get i=some x:=by
 induction h with
 | e=>intro i x hi;obtain rfl:i=0:=by omega
      rfl
 | @nd l r y n hl hr ihl ihr=>
  intro i x hi
  cases i with
  | zero=>rfl
  | succ i=>
   rw [I9]
   split
   ·rename_i h0;rw [R7,if_pos h0];exact ihl _ _ (by omega)
   ·rename_i h0;rw [R7,if_neg h0];exact ihr _ _ (by omega)
theorem O8 {t:T α}{n:Nat}(h:Ok t n):∀i j (x:α),i≤n→i≠j→(t.put i x).get j=t.get j:=by
 induction h with
 | e=>
  intro i j x hi hj
  obtain rfl:i=0:=by omega
  cases j with
  | zero=>omega
  | succ j=>rw [TD,R7];simp
 | @nd l r y n hl hr ihl ihr=>
  intro i j x hi hij
  cases i with
  | zero=>
   cases j with
   | zero=>omega
   | succ j=>rw [BG,R7,R7]
  | succ i=>
   rw [I9]
   cases j with
   | zero=>split<;>rfl
   | succ j=>
    split
    ·rename_i h0
     rw [R7,R7]
     split
     ·exact ihl _ _ _ (by omega) (by omega)
     ·rfl
    ·rename_i h0
     rw [R7,R7]
     split
     ·rfl
     ·exact ihr _ _ _ (by omega) (by omega)
theorem iX (x:α)(l:List α)(t:T α)(i:Nat):fI (x::l) t i=fI l (t.put i x) (i+1):=rfl
theorem vJ (l:List α):∀(t:T α) (i:Nat),Ok t i→Ok (fI l t i) (i+l.length):=by
 induction l with
 | nil=>intro t i h;exact h
 | cons x l ih=>intro t i h;rw [iX,List.length_cons,show i+(l.length+1)=i+1+l.length from by omega];exact ih _ _ (h.push x)
theorem tF (l:List α):∀(t:T α) (i:Nat),Ok t i→∀j,(fI l t i).get j=if j<i then t.get j else l[j-i]?:=by
 induction l with
 | nil=>
  intro t i h j
  show t.get j=_
  split
  ·rfl
  ·rename_i hj
   cases hg:t.get j with
   | none=>simp
   | some x=>exact absurd ((h.get j).1 ⟨x,hg⟩) hj
 | cons x l ih=>
  intro t i h j
  rw [iX,ih _ _ (h.push x)]
  by_cases h1:j<i
  ·rw [if_pos (by omega),if_pos h1,O8 h _ _ _ (Nat.le_refl _) (by omega)]
  ·by_cases h2:j=i
   ·subst h2;rw [if_pos (by omega),N7 h _ _ (Nat.le_refl _)];simp
   ·rw [if_neg (by omega),if_neg h1,show j-i=(j-(i+1))+1 from by omega];simp
theorem M9 (l:List α)(j:Nat):(ofList l).get j=l[j]?:=by
 have:=tF l .e 0 .e j
 simpa [ofList] using this
theorem Y9 (l:List α):Ok (ofList l) l.length:=by
 have:=vJ l .e 0 .e
 simpa [ofList] using this
theorem vK (x:α)(n:Nat)(t:T α)(i:Nat):rep x (n+1) t i=rep x n (t.put i x) (i+1):=rfl
theorem EP (x:α)(n:Nat):∀(t:T α) (i:Nat),Ok t i→Ok (rep x n t i) (i+n):=by
 induction n with
 | zero=>intro t i h;exact h
 | succ n ih=>intro t i h;rw [vK,show i+(n+1)=i+1+n from by omega];exact ih _ _ (h.push x)
theorem ER (x:α)(n:Nat):∀(t:T α) (i:Nat),Ok t i→∀j,(rep x n t i).get j=if j<i then t.get j else if j<i+n then some x else none:=by
 induction n with
 | zero=>
  intro t i h j
  show t.get j=_
  split
  ·rfl
  ·rename_i hj
   rw [if_neg (by omega)]
   cases hg:t.get j with
   | none=>rfl
   | some y=>exact absurd ((h.get j).1 ⟨y,hg⟩) hj
 | succ n ih=>
  intro t i h j
  rw [vK,ih _ _ (h.push x)]
  by_cases h1:j<i
  ·rw [if_pos (by omega),if_pos h1,O8 h _ _ _ (Nat.le_refl _) (by omega)]
  ·by_cases h2:j=i
   ·subst h2;rw [if_pos (by omega),N7 h _ _ (Nat.le_refl _),if_neg h1,if_pos (by omega)]
   ·rw [if_neg (by omega),if_neg h1]
    by_cases h3:j<i+1+n
    ·rw [if_pos h3,if_pos (by omega)]
    ·rw [if_neg h3,if_neg (by omega)]
theorem uf (t:T α)(i:Nat):t.slice 0 i=some []:=rfl
theorem ug (t:T α)(n i:Nat):t.slice (n+1) i=ob (t.get i) fun x=>ob (t.slice n (i+1)) fun xs=>some (x::xs):=rfl
theorem CY (t:T α)(n:Nat):∀i l,t.slice n i=some l→l.length=n∧∀j,j<n→t.get (i+j)=l[j]?:=by
 induction n with
 | zero=>intro i l h;rw [uf] at h;cases h;simp
 | succ n ih=>
  intro i l h
  rw [ug] at h
  obtain⟨x,hx,h⟩:=r9 h
  obtain⟨xs,hxs,h⟩:=r9 h
  cases h
  obtain⟨hl,hg⟩:=ih _ _ hxs
  refine⟨by simp [hl],fun j hj=>?_⟩
  cases j with
  | zero=>simpa using hx
  | succ j=>rw [show i+(j+1)=i+1+j from by omega,hg j (by omega)];simp
end T
section
variable {α:Type}
@[simp] theorem C8 (l:List α):len' l=l.length:=by
 induction l with
 | nil=>rfl
 | cons x l ih=>show Nat.succ (len' l)=_;rw [ih];rfl
@[simp] theorem L9 (l m:List α):dz l m=l++m:=by
 induction l with
 | nil=>rfl
 | cons x l ih=>show x::dz l m=_;rw [ih];rfl
@[simp] theorem aJ (n:Nat):∀l:List α,fJ n l=l.drop n:=by
 induction n with
 | zero=>intro l;rfl
 | succ n ih=>
  intro l
  cases l with
  | nil=>rfl
  | cons x l=>exact ih l
@[simp] theorem cZ (n:Nat):∀l:List α,sW n l=l[n]?:=by
 induction n with
 | zero=>intro l;cases l<;>rfl
 | succ n ih=>
  intro l
  cases l with
  | nil=>rfl
  | cons x l=>show sW n l=_;rw [ih];rfl
@[simp] theorem Ki (n:Nat):∀l:List j3,nth n l=l[n]?.getD .undef:=by
 induction n with
 | zero=>intro l;cases l<;>rfl
 | succ n ih=>
  intro l
  cases l with
  | nil=>rfl
  | cons x l=>show nth n l=_;rw [ih];rfl
theorem dH (n:Nat):∀(l r:List α),takeN n l=some r→r=l.take n∧n≤l.length:=by
 induction n with
 | zero=>intro l r h;cases h;simp
 | succ n ih=>
  intro l r h
  cases l with
  | nil=>cases h
  | cons x l=>
   change ob (takeN n l) (fun r=>some (x::r))=some r at h
   obtain⟨r',hr,h⟩:=r9 h
   cases h
   obtain⟨h1,h2⟩:=ih _ _ hr
   exact⟨by simp [h1],by simp;omega⟩
theorem aB (n:Nat):∀(l:List α),n≤l.length→takeN n l=some (l.take n):=by
 induction n with
 | zero=>intro l _;rfl
 | succ n ih=>
  intro l h
  cases l with
  | nil=>simp at h
  | cons x l=>
   change ob (takeN n l) (fun r=>some (x::r))=_
   rw [ih l (by simpa using h)];rfl
theorem eZ (n:Nat)(vs:List α):∀(l:List α),n≤l.length→iO n vs l=l.take n++(vs++l.drop (n+vs.length)):=by
 induction n with
 | zero=>intro l _;show dz vs (fJ (len' vs) l)=_;simp
 | succ n ih=>
  intro l h
  cases l with
  | nil=>simp at h
  | cons x l=>
   show x::iO n vs l=_
   rw [ih l (by simpa using h),show n+1+vs.length=(n+vs.length)+1 from by omega];simp
theorem oJ (n:Nat)(vs l:List α)(h:n+vs.length≤l.length):(iO n vs l).length=l.length:=by
 rw [eZ n vs l (by omega)];simp;omega
theorem ES (n:Nat)(vs l:List α)(h:n+vs.length≤l.length)(j:Nat):
  (iO n vs l)[j]?=if n≤j∧j<n+vs.length then vs[j-n]? else l[j]?:=by
 rw [eZ n vs l (by omega)]
 rw [List.getElem?_append]
 simp only [List.length_take,show min n l.length=n from by omega]
 split
 ·rw [if_neg (by omega),List.getElem?_take,if_pos (by omega)]
 ·rw [List.getElem?_append]
  split
  ·rw [if_pos (by omega)]
  ·rw [if_neg (by omega),List.getElem?_drop];congr 1;omega
end
structure Loc where
 b:Nat
 base:Nat
 cap:Nat
 spot:Option Nat
abbrev Inj:=Nat→Loc
def Inj.at (ι:Inj)(i o:Nat):Addr:=⟨(ι i).b,(ι i).base+o,if o=0 then (ι i).spot else none⟩
theorem Inj.qH {ι:Inj}{i:Nat}(h:(ι i).spot=none)(o:Nat):ι.at i o=⟨(ι i).b,(ι i).base+o,none⟩:=by simp [Inj.at,h]
def dS (ι:Inj):Fn→Fn
 | .yield l=>.yield (ι l).b
 | f=>f
mutual
def l6 (ι:Inj):j3→Value
 | .undef=>.tuple #[]
 | .bool b=>.bool b
 | .int k n=>.int k n
 | .str s=>.string ⟨s.toArray⟩
 | .nilPtr=>.pointer none
 | .ptr i o=>.pointer (some (ι.at i o))
 | .nilSlice=>.slice none 0 0
 | .slice i o l c=>.slice (some (ι.at i o)) l c
 | .sliceU i o l es=>.slice (some (ι.at i o)) l (((ι i).cap-o) / es)
 | .nilMap=>.map none
 | .map i=>.map (some (ι i).b)
 | .nilFunc=>.nilFunc
 | .func fn a b=>.func (dS ι fn) (l8 ι a).toArray (l8 ι b).toArray
 | .nilIface=>.nilIface
 | .iface t v=>.iface t (l6 ι v)
 | .agg l=>.agg (l8 ι l).toArray
 | .tuple l=>.tuple (l8 ι l).toArray
 | .pan v=>.tuple #[l6 ι v]
def l8 (ι:Inj):List j3→List Value
 | []=>[]
 | v::l=>l6 ι v::l8 ι l
end
structure Nm where
 has:Nat→Prop
 cap:Nat→Nat
instance:CoeFun Nm (fun _=>Nat→Prop):=⟨Nm.has⟩
def Nm.le (n m:Nm):Prop:=∀i,n i→m i∧m.cap i=n.cap i
theorem Nm.le_refl (n:Nm):n.le n:=fun _ h=>⟨h,rfl⟩
theorem Nm.le_trans {a b c:Nm}(h:a.le b)(k:b.le c):a.le c:=fun i hi=>⟨(k i (h i hi).1).1,(k i (h i hi).1).2.trans (h i hi).2⟩
def RD (n:Nm):Fn→Prop
 | .yield l=>n l
 | _=>True
mutual
def j3.lt (n:Nm):j3→Prop
 | .ptr i _=>n i
 | .slice i _ _ _=>n i
 | .sliceU i o l es=>n i∧1≤es∧o+l*es≤n.cap i
 | .map i=>n i
 | .func fn a b=>RD n fn∧ltL n a∧ltL n b
 | .iface _ v=>v.lt n
 | .agg l=>ltL n l
 | .tuple l=>ltL n l
 | .pan _=>False
 | _=>True
def ltL (n:Nm):List j3→Prop
 | []=>True
 | v::l=>v.lt n∧ltL n l
end
theorem N8 (ι:Inj)(l:List j3):l8 ι l=l.map (l6 ι):=by
 induction l with
 | nil=>simp [l8]
 | cons v l ih=>simp [l8,ih]
theorem R5 {n:Nm}{l:List j3}:ltL n l↔∀v∈l,v.lt n:=by
 induction l with
 | nil=>simp [ltL]
 | cons v l ih=>simp [ltL,ih]
@[simp] theorem G9 (ι:Inj)(l:List j3):(l8 ι l).length=l.length:=by simp [N8]
theorem K7 (ι:Inj)(l:List j3)(i:Nat):(l8 ι l)[i]?=l[i]?.map (l6 ι):=by simp [N8]
mutual
theorem F7 {n:Nm}{ι ι':Inj}(h:∀i,n i→ι' i=ι i):∀v:j3,v.lt n→l6 ι' v=l6 ι v
 | .undef,_ | .bool _,_ | .int _ _,_ | .str _,_ | .nilPtr,_ | .nilSlice,_ | .nilMap,_ | .nilFunc,_ | .nilIface,_=>by simp [l6]
 | .ptr i o,hv=>by simp only [j3.lt] at hv;simp [l6,Inj.at,h i hv]
 | .slice i o l c,hv=>by simp only [j3.lt] at hv;simp [l6,Inj.at,h i hv]
 | .sliceU i o l c,hv=>by simp only [j3.lt] at hv;simp [l6,Inj.at,h i hv.1]
 | .map i,hv=>by simp only [j3.lt] at hv;simp [l6,h i hv]
 | .func fn a b,hv=>by
  simp only [j3.lt] at hv
  obtain⟨hf,ha,hb⟩:=hv
  have e:dS ι' fn=dS ι fn:=by cases fn<;>simp_all [dS,RD]
  simp [l6,e,U2 h a ha,U2 h b hb]
 | .iface t v,hv=>by simp only [j3.lt] at hv;simp [l6,F7 h v hv]
 | .agg l,hv=>by simp only [j3.lt] at hv;simp [l6,U2 h l hv]
 | .tuple l,hv=>by simp only [j3.lt] at hv;simp [l6,U2 h l hv]
 | .pan v,hv=>by simp only [j3.lt] at hv
theorem U2 {n:Nm}{ι ι':Inj}(h:∀i,n i→ι' i=ι i):∀l:List j3,ltL n l→l8 ι' l=l8 ι l
 | [],_=>by simp [l8]
 | v::l,hl=>by simp only [ltL] at hl;simp [l8,F7 h v hl.1,U2 h l hl.2]
end
mutual
theorem j3.F4 {n m:Nm}(h:n.le m):∀v:j3,v.lt n→v.lt m
 | .undef,_ | .bool _,_ | .int _ _,_ | .str _,_ | .nilPtr,_ | .nilSlice,_ | .nilMap,_ | .nilFunc,_ | .nilIface,_=>by simp [j3.lt]
 | .ptr i o,hv=>by simp only [j3.lt] at *;exact (h _ hv).1
 | .slice i o l c,hv=>by simp only [j3.lt] at *;exact (h _ hv).1
 | .sliceU i o l c,hv=>by simp only [j3.lt] at *;exact⟨(h _ hv.1).1,hv.2.1,by rw [(h _ hv.1).2];exact hv.2.2⟩
 | .map i,hv=>by simp only [j3.lt] at *;exact (h _ hv).1
 | .func fn a b,hv=>by
  simp only [j3.lt] at *
  exact⟨by cases fn<;>first | trivial | exact (h _ hv.1).1,R8 h a hv.2.1,R8 h b hv.2.2⟩
 | .iface t v,hv=>by simp only [j3.lt] at *;exact j3.F4 h v hv
 | .agg l,hv=>by simp only [j3.lt] at *;exact R8 h l hv
 | .tuple l,hv=>by simp only [j3.lt] at *;exact R8 h l hv
 | .pan v,hv=>by simp only [j3.lt] at hv
theorem R8 {n m:Nm}(h:n.le m):∀l:List j3,ltL n l→ltL m l
 | [],_=>by simp [ltL]
 | v::l,hl=>by simp only [ltL] at *;exact⟨j3.F4 h v hl.1,R8 h l hl.2⟩
end
theorem dI (ι:Inj)(v:j3):(l6 ι v).cells=(l8 ι v.cells).toArray:=by
 cases v<;>simp [l6,Value.cells,j3.cells,l8]
theorem lG {n:Nm}{v:j3}(h:v.lt n):ltL n v.cells:=by
 cases v<;>simp_all [j3.lt,j3.cells,ltL]
mutual
theorem fq (ι:Inj):∀(v:Value) (a:j3),ofValue v=some a→l6 ι a=v∧∀n,a.lt n
 | .bool b,a,h=>by simp only [ofValue,Option.some.injEq] at h;subst h;simp [l6,j3.lt]
 | .int k n,a,h=>by simp only [ofValue,Option.some.injEq] at h;subst h;simp [l6,j3.lt]
 | .string s,a,h=>by simp only [ofValue,Option.some.injEq] at h;subst h;simp [l6,j3.lt]
 | .pointer none,a,h=>by simp only [ofValue,Option.some.injEq] at h;subst h;simp [l6,j3.lt]
 | .pointer (some _),a,h=>by simp [ofValue] at h
 | .slice none 0 0,a,h=>by simp only [ofValue,Option.some.injEq] at h;subst h;simp [l6,j3.lt]
 | .slice (some _) _ _,a,h=>by simp [ofValue] at h
 | .slice none (_+1) _,a,h=>by simp [ofValue] at h
 | .slice none 0 (_+1),a,h=>by simp [ofValue] at h
 | .map none,a,h=>by simp only [ofValue,Option.some.injEq] at h;subst h;simp [l6,j3.lt]
 | .map (some _),a,h=>by simp [ofValue] at h
 | .nilFunc,a,h=>by simp only [ofValue,Option.some.injEq] at h;subst h;simp [l6,j3.lt]
 | .nilIface,a,h=>by simp only [ofValue,Option.some.injEq] at h;subst h;simp [l6,j3.lt]
 | .func (.func f) ⟨[]⟩ ⟨[]⟩,a,h=>by simp only [ofValue,Option.some.injEq] at h;subst h;simp [l6,j3.lt,dS,l8,RD,ltL]
 | .func (.func f) ⟨_ :: _⟩ _,a,h=>by simp [ofValue] at h
 | .func (.func f) ⟨[]⟩ ⟨_ :: _⟩,a,h=>by simp [ofValue] at h
 | .func (.method _) _ _,a,h=>by simp [ofValue] at h
 | .func (.methodOf _ _) _ _,a,h=>by simp [ofValue] at h
 | .func (.via _ _ _ _) _ _,a,h=>by simp [ofValue] at h
 | .func (.yield _) _ _,a,h=>by simp [ofValue] at h
 | .agg ⟨l⟩,a,h=>by
  simp only [ofValue] at h
  cases hx:ofValues l with
  | none=>simp [hx] at h
  | some x=>
   simp only [hx,Option.some.injEq] at h;subst h
   obtain⟨h1,h2⟩:=ko ι l x hx
   simp [l6,j3.lt,h1];exact h2
 | .tuple ⟨[]⟩,a,h=>by simp only [ofValue,Option.some.injEq] at h;subst h;simp [l6,j3.lt,l8,ltL]
 | .tuple ⟨_ :: _⟩,a,h=>by simp [ofValue] at h
 | .float _ _,a,h=>by simp [ofValue] at h
 | .complex _ _ _,a,h=>by simp [ofValue] at h
 | .chan _,a,h=>by simp [ofValue] at h
 | .iface _ _,a,h=>by simp [ofValue] at h
theorem ko (ι:Inj):∀(l:List Value) (x:List j3),ofValues l=some x→l8 ι x=l∧∀n,ltL n x
 | [],x,h=>by simp only [ofValues,Option.some.injEq] at h;subst h;simp [l8,ltL]
 | v::l,x,h=>by
  simp only [ofValues] at h
  cases hv:ofValue v with
  | none=>simp [hv] at h
  | some a=>
   cases hl:ofValues l with
   | none=>simp [hv,hl] at h
   | some y=>
    simp only [hv,hl,Option.some.injEq] at h;subst h
    obtain⟨h1,h2⟩:=fq ι v a hv
    obtain⟨h3,h4⟩:=ko ι l y hl
    simp [l8,ltL,h1,h3];exact fun n=>⟨h2 n,h4 n⟩
end
theorem OE:∀(n j:Nat) (t:T j3),j+1<2^n→way n j t=(t.get j).getD .undef:=by
 intro n
 induction n with
 | zero=>intro j t h;simp at h
 | succ n ih=>
  intro j t h
  cases j with
  | zero=>cases t<;>rfl
  | succ j=>
   have hj:j / 2+1<2^n:=by rw [Nat.pow_succ] at h;omega
   rcases Nat.mod_two_eq_zero_or_one j with h0 | h0
   ·simp only [way,h0]
    cases t with
    | e=>rfl
    | nd l x r=>rw [T.R7,if_pos h0];exact ih _ l hj
   ·simp only [way,h0]
    cases t with
    | e=>rfl
    | nd l x r=>rw [T.R7,if_neg (by omega)];exact ih _ r hj
theorem KY (v:j3):∀(n j:Nat) (t:T j3) (x:j3),j+1<2^n→t.get j=some x→M7 n j v t=t.put j v:=by
 intro n
 induction n with
 | zero=>intro j t x h;simp at h
 | succ n ih=>
  intro j t x h hx
  cases t with
  | e=>simp at hx
  | nd l y r=>
   cases j with
   | zero=>rfl
   | succ j=>
    have hj:j / 2+1<2^n:=by rw [Nat.pow_succ] at h;omega
    rw [T.R7] at hx
    rcases Nat.mod_two_eq_zero_or_one j with h0 | h0
    ·rw [if_pos h0] at hx
     simp only [M7,h0]
     rw [T.I9,if_pos h0];show T.nd (M7 n (j / 2) v l) y r=_;rw [ih _ l x hj hx]
    ·rw [if_neg (by omega)] at hx
     simp only [M7,h0]
     rw [T.I9,if_neg (by omega)];show T.nd l y (M7 n (j / 2) v r)=_;rw [ih _ r x hj hx]
theorem lH {t:Nat}{l:List Nat}{i j:Nat}(h:idxOf t l i=some j):i≤j∧j<i+l.length∧l[j-i]?=some t:=by
 induction l generalizing i with
 | nil=>simp [idxOf] at h
 | cons x l ih=>
  simp only [idxOf] at h
  cases hx:Nat.beq x t with
  | true=>
   simp only [hx,cond_true,Option.some.injEq] at h
   subst h
   have:=Nat.eq_of_beq_eq_true hx
   simp [this]
  | false=>
   simp only [hx,cond_false] at h
   obtain⟨h1,h2,h3⟩:=ih h
   refine⟨by omega,by simp;omega,?_⟩
   rw [show j-i=(j-(i+1))+1 from by omega];simpa using h3
theorem ET {t u:Nat}{l:List Nat}{i j:Nat}(h:idxOf t l i=some j)(h':idxOf u l i=some j):t=u:=by
 have a:=(lH h).2.2
 have b:=(lH h').2.2
 rw [a] at b;exact Option.some.inj b
structure M8 (ι:Inj)(n:Nm)(slots:List Nat)(env:T j3)(tmps:Array Value):Prop where
 ok:T.Ok env slots.length
 small:slots.length<2^60
 val:∀t j,idxOf t slots 0=some j→t<tmps.size∧∃v,env.get j=some v∧v.lt n∧tmps.getD t undef=l6 ι v
theorem M8.mono {ι ι':Inj}{n n':Nm}{slots:List Nat}{env:T j3}{tmps:Array Value}(h:M8 ι n slots env tmps)
  (hi:∀i,n i→ι' i=ι i) (hn:n.le n'):M8 ι' n' slots env tmps:=
 ⟨h.ok,h.small,fun t j ht=>by
  obtain⟨h1,v,h2,h3,h4⟩:=h.val t j ht
  exact⟨h1,v,h2,v.F4 hn h3,by rw [h4,F7 hi v h3]⟩⟩
theorem J9 (a:Array Value)(i j:Nat)(v:Value)(hi:i<a.size):
  (a.setIfInBounds i v).getD j undef=if i=j then v else a.getD j undef:=by
 rw [Array.getD_eq_getD_getElem?,Array.getD_eq_getD_getElem?]
 by_cases h:i=j
 ·subst h;rw [if_pos rfl,Array.getElem?_setIfInBounds_self_of_lt hi];rfl
 ·rw [if_neg h,Array.getElem?_setIfInBounds_ne h]
theorem M8.put {ι:Inj}{n:Nm}{slots:List Nat}{env:T j3}{tmps:Array Value}(h:M8 ι n slots env tmps)(d:Option Tmp){v:j3}(hv:v.lt n):
  M8 ι n slots (trD (Iy slots d) v env) (match d with | some t=>tmps.setIfInBounds t (l6 ι v) | none=>tmps):=by
 cases d with
 | none=>exact h
 | some t=>
  simp only [Iy]
  cases ht:idxOf t slots 0 with
  | none=>
   refine⟨h.ok,h.small,fun u j hu=>?_⟩
   obtain⟨h1,v',h2,h3,h4⟩:=h.val u j hu
   refine⟨by simpa using h1,v',h2,h3,?_⟩
   have hne:t≠u:=fun e=>by subst e;rw [ht] at hu;cases hu
   by_cases hts:t<tmps.size
   ·rw [J9 _ _ _ _ hts,if_neg hne];exact h4
   ·rw [show tmps.setIfInBounds t (l6 ι v)=tmps from Array.setIfInBounds_eq_of_size_le (Nat.le_of_not_lt hts)];exact h4
  | some k=>
   obtain⟨h1,x,h2,_,_⟩:=h.val t k ht
   have hk:=(lH ht).2.1
   have hway:trD (some k) v env=env.put k v:=KY v 64 k env x (by have:=h.small;have:(2:Nat)^60<2^64:=by decide
                                                                 omega) h2
   rw [hway]
   refine⟨h.ok.put _ _ (by omega),h.small,fun u j hu=>?_⟩
   obtain⟨g1,v',g2,g3,g4⟩:=h.val u j hu
   refine⟨by simpa using g1,?_⟩
   rw [J9 _ _ _ _ h1]
   by_cases he:t=u
   ·subst he
    rw [ht] at hu;cases hu
    exact⟨v,T.N7 h.ok _ _ (by omega),hv,by simp⟩
   ·refine⟨v',?_,g3,by rw [if_neg he];exact g4⟩
    rw [T.O8 h.ok _ _ _ (by omega) (fun e=>he (by subst e;exact ET ht hu))];exact g2
def K8:Blk→Bool
 | .cells .. | .map _ | .iter .. | .loop .. | .deferred | .siter .. | .buf .. | .mapU _=>true
 | _=>false
def exitCode:X9→Code
 | .normal=>.skip
 | .exit id=>.exit id
 | .ret=>.ret
section
variable (P:Program)
structure qI (ι:Inj)(n:Nm)(L:Loop)(st:LoopState)(pend:Option X9)(env:T j3)(params:List (Option Nat))(assign body:M6):Prop where
 state:L.state=st
 pending:L.pending=pend.map exitCode
 code:∃slots,M8 ι n slots env L.tmps∧params=L.params.toList.map (fun t=>idxOf t slots 0)∧I8 P slots L.assign=some assign∧I8 P slots L.body=some body∧
  ∃nt,nt≤L.tmps.size∧tmpsIn nt L.assign=true∧tmpsIn nt L.body=true
def A8 (ι:Inj):List (j3×j3)→Nat→List MapEntry
 | [],_=>[]
 | e::es,i=>{key:=l6 ι e.1,val:=l6 ι e.2,born:=i}::A8 ι es (i+1)
def KZ (P:Program)(l:Loc)(e:TypeId)(sz k:Nat)(rows:T (List j3)):Prop:=∀ty,k=1→CK rows=some ty→e=ty∧l.base=0∧sz=P.cellsOf ty
theorem nG {P:Program}{l:Loc}{e:TypeId}{sz k:Nat}{rows:T (List j3)}(h:k=1→rows.get 1=none):KZ P l e sz k rows:=fun ty h1 h2=>by
 unfold CK at h2;rw [h h1] at h2;cases h2
theorem lI {P:Program}{l:Loc}{e:TypeId}{sz k:Nat}{rows:T (List j3)}(h:T.Ok rows k):KZ P l e sz k rows:=nG fun h1=>by
 subst h1
 cases hg:rows.get 1 with
 | none=>rfl
 | some x=>exact absurd ((h.get 1).1 ⟨x,hg⟩) (by omega)
theorem EU {rows:T (List j3)}{N i:Nat}(h:T.Ok rows N)(hi:i≤N)(h1:i≠1)(r:List j3):CK (rows.put i r)=CK rows:=by
 unfold CK;rw [T.O8 h _ _ _ hi h1]
def UOk (ι:Inj)(es:List (j3×j3))(L:List MapEntry):Prop:=
 (L.map fun x=>(x.key,x.val)).Perm (es.map fun e=>(l6 ι e.1,l6 ι e.2))∧(∀e∈es,∃s,e.1=.str s)∧(es.map (·.1)).Nodup
def Z9 (ι:Inj)(n:Nm)(h:Array Obj)(l:Loc):Blk→Prop
 | .void=>True
 | .dead=>True
 | .cells rs k rows=>∃c e fz,h[l.b]?=some (.cells c e fz)∧l.base+l.cap≤c.size∧(k*rs≤l.cap∧∃N,k≤N∧T.Ok rows N∧KZ P l e c.size k rows)∧
   ∀i,i<k→∃row,rows.get i=some row∧row.length=rs∧ltL n row∧∀j,j<rs→c[l.base+(i*rs+j)]?=(row[j]?).map (l6 ι)
 | .map es=>h[l.b]?=some (.map (A8 ι es 0).toArray es.length)∧∀e∈es,e.1.lt n∧e.2.lt n
 | .iter mp since seen=>l.base=0∧(∀x,mp=some x→n x)∧∃sn st,h[l.b]?=some (.mapIter (mp.map fun x=>(ι x).b) since sn st)∧sn.toList.reverse=seen∧(mp≠none→st=since)
 | .tail p=>n p∧(l.cap=0∨(l.b=(ι p).b∧l.base+l.cap≤(ι p).base+(ι p).cap∧((ι p).spot=none→l.spot=none)))
 | .loop st pend env params assign body=>∃L,h[l.b]?=some (.loop L)∧qI P ι n L st pend env params assign body
 | .deferred=>h[l.b]?=some (.deferred (some []))
 | .siter s pos=>l.base=0∧h[l.b]?=some (.stringIter ⟨s.toArray⟩ pos)
 | .buf ty s=>l.base=0∧∃c fz,h[l.b]?=some (.cells c ty fz)∧s.length≤l.cap∧l.cap≤c.size∧∀(j:Nat) (b:UInt8),s[j]?=some b→c[j]?=some (Value.int .u8 (b.toNat:Int))
 | .mapU es=>∃L ck,h[l.b]?=some (.map L.toArray ck)∧UOk ι es L∧∀e∈es,e.1.lt n∧e.2.lt n
structure adY (ι:Inj)(m:Mem)(h:Array Obj)(i:Nat):Prop where
 alone:∀j b,j≠i→m.get j=some b→K8 b=true→(ι j).b≠(ι i).b
 free:∀c e fz,h[(ι i).b]?=some (.cells c e fz)→∀k,k<c.size→¬ (fz.1≤k∧k<fz.2)
def ah:Blk→Bool
 | .void=>true
 | _=>false
def Mem.has (m:Mem)(i:Nat):Prop:=∃b,m.get i=some b∧ah b=false
def Mem.nm (m:Mem)(ι:Inj):Nm:=⟨m.has,fun i=>(ι i).cap⟩
theorem Mem.O6 {m m':Mem}{ι ι':Inj}(h:∀i,m.has i→m'.has i)(hi:∀i,m.has i→ι' i=ι i):(m.nm ι).le (m'.nm ι'):=
 fun i hh=>⟨h i hh,congrArg Loc.cap (hi i hh)⟩
def GSz (P:Program)(G:Mem)(h:Array Obj):Prop:=∀i rs k rows,i<P.globals.size→G.get i=some (.cells rs k rows)→∃c e fz,h[i]?=some (.cells c e fz)∧c.size=k*rs
structure RM (G:Mem)(ι:Inj)(m:Mem)(h:Array Obj):Prop where
 ok:T.Ok m.t m.next
 blk:∀i b,m.get i=some b→Z9 P ι (m.nm ι) h (ι i) b
 own:∀i b,m.lim≤i→m.get i=some b→K8 b=true→adY ι m h i
 glim:G.next≤m.lim
 limn:m.lim≤m.next
 gle:P.globals.size≤G.next
 base:∀i,i<G.next→m.get i=G.get i
 ghas:∀i,i<P.globals.size→m.has i
 glob:∀i,i<P.globals.size→(ι i).b=i∧(ι i).base=0∧(ι i).spot=none
 spot:∀i b,m.get i=some b→K8 b=true→(ι i).spot=none
 gsz:GSz P G h
end
def EW (ι:Inj)(m:Mem)(b:Nat):Prop:=∃i x,m.lim≤i∧m.get i=some x∧K8 x=true∧(ι i).b=b
theorem RM.EX {P:Program}{G:Mem}{ι:Inj}{m:Mem}{h h':Array Obj}(hm:RM P G ι m h)(hh:∀b,b<h.size→¬ EW ι m b→h'[b]?=h[b]?):GSz P G h':=by
 intro i rs k rows hi hg
 obtain⟨c,e,fz,h1,h2⟩:=hm.gsz i rs k rows hi hg
 have hlt:i<h.size:=(Array.getElem?_eq_some_iff.1 h1).1
 have hGn:i<G.next:=Nat.lt_of_lt_of_le hi hm.gle
 have hmi:m.get i=some (.cells rs k rows):=(hm.base i hGn).trans hg
 refine⟨c,e,fz,?_,h2⟩
 rw [hh i hlt]
 ·exact h1
 ·rintro⟨j,x,hj,hx,hlx,hb⟩
  have hne:i≠j:=by have:=hm.glim;omega
  exact (hm.own j x hj hx hlx).alone i _ hne hmi rfl (by rw [(hm.glob i hi).1,hb])
structure Step (P:Program)(G:Mem)(ι:Inj)(m:Mem)(w:World)(ι':Inj)(m':Mem)(w':World):Prop where
 rm:RM P G ι' m' w'.heap
 ext:∀i,m.has i→ι' i=ι i
 has:∀i,m.has i→m'.has i
 next:m.next≤m'.next
 lim:m'.lim=m.lim
 old:∀i,i<m.lim→m'.get i=m.get i
 size:w.heap.size≤w'.heap.size
 frame:∀b,b<w.heap.size→¬ EW ι m b→w'.heap[b]?=w.heap[b]?
 own:∀b,EW ι' m' b→EW ι m b∨w.heap.size≤b
 os:w'.os=w.os
 out:w'.output=w.output
 tape:w'.tape=w.tape
theorem Step.refl {P:Program}{G:Mem}{ι:Inj}{m:Mem}{w:World}(h:RM P G ι m w.heap):Step P G ι m w ι m w:=
 ⟨h,fun _ _=>rfl,fun _ h=>h,Nat.le_refl _,rfl,fun _ _=>rfl,Nat.le_refl _,fun _ _ _=>rfl,fun _ h=>.inl h,rfl,rfl,rfl⟩
theorem Step.drew {P:Program}{G:Mem}{ι:Inj}{m:Mem}{w:World}(h:RM P G ι m w.heap)(n:Nat):Step P G ι m w ι m {w with drawn:=n}:=
 ⟨h,fun _ _=>rfl,fun _ h=>h,Nat.le_refl _,rfl,fun _ _=>rfl,Nat.le_refl _,fun _ _ _=>rfl,fun _ h=>.inl h,rfl,rfl,rfl⟩
theorem Step.trans {P:Program}{G:Mem}{ι₁ ι₂ ι₃:Inj}{m₁ m₂ m₃:Mem}{w₁ w₂ w₃:World}(a:Step P G ι₁ m₁ w₁ ι₂ m₂ w₂)(b:Step P G ι₂ m₂ w₂ ι₃ m₃ w₃):
  Step P G ι₁ m₁ w₁ ι₃ m₃ w₃ where
 rm:=b.rm
 ext i hi:=(b.ext i (a.has i hi)).trans (a.ext i hi)
 has i hi:=b.has i (a.has i hi)
 next:=Nat.le_trans a.next b.next
 lim:=b.lim.trans a.lim
 old i hi:=(b.old i (by rw [a.lim];exact hi)).trans (a.old i hi)
 size:=Nat.le_trans a.size b.size
 frame x hx ho:=by
  refine (b.frame x (Nat.lt_of_lt_of_le hx a.size) fun h=>?_).trans (a.frame x hx ho)
  rcases a.own x h with h | h
  ·exact ho h
  ·omega
 own x h:=by
  rcases b.own x h with h | h
  ·exact a.own x h
  ·exact .inr (Nat.le_trans a.size h)
 os:=b.os.trans a.os
 out:=b.out.trans a.out
 tape:=b.tape.trans a.tape
theorem Step.l6 {P:Program}{G:Mem}{ι ι':Inj}{m m':Mem}{w w':World}(a:Step P G ι m w ι' m' w'){v:j3}(h:v.lt (m.nm ι)):AM.l6 ι' v=AM.l6 ι v:=
 F7 (n:=m.nm ι) a.ext v h
theorem Step.env {P:Program}{G:Mem}{ι ι':Inj}{m m':Mem}{w w':World}(a:Step P G ι m w ι' m' w'){slots:List Nat}{env:T j3}{tmps:Array Value}
  (h:M8 ι (m.nm ι) slots env tmps):M8 ι' (m'.nm ι') slots env tmps:=h.mono (n:=m.nm ι) a.ext (Mem.O6 a.has a.ext)
theorem qI.mono {P:Program}{ι ι':Inj}{n n':Nm}{L:Loop}{st:LoopState}{pend:Option X9}{env:T j3}{params:List (Option Nat)}{assign body:M6}
  (h:qI P ι n L st pend env params assign body) (hi:∀i,n i→ι' i=ι i) (hn:n.le n'):qI P ι' n' L st pend env params assign body:=by
 obtain⟨h1,h2,slots,h3,h4⟩:=h
 exact⟨h1,h2,slots,h3.mono hi hn,h4⟩
theorem lJ {ι ι':Inj}{n:Nm}(hi:∀i,n i→ι' i=ι i):∀(es:List (j3×j3)) (i:Nat),(∀e∈es,e.1.lt n∧e.2.lt n)→A8 ι' es i=A8 ι es i
 | [],_,_=>rfl
 | e::es,i,h=>by
  simp only [A8]
  rw [F7 hi _ (h e (by simp)).1,F7 hi _ (h e (by simp)).2,lJ hi es (i+1) (fun e he=>h e (by simp [he]))]
@[simp] theorem tH (ι:Inj):∀(es:List (j3×j3)) (i:Nat),(A8 ι es i).length=es.length
 | [],_=>rfl
 | e::es,i=>by simp [A8,tH ι es]
theorem dU (ι:Inj):∀(es:List (j3×j3)) (i j:Nat),(A8 ι es i)[j]?=(es[j]?).map fun e=>{key:=l6 ι e.1,val:=l6 ι e.2,born:=i+j}
 | [],_,_=>by simp [A8]
 | e::es,i,0=>by simp [A8]
 | e::es,i,j+1=>by simp [A8,dU ι es,show i+1+j=i+(j+1) from by omega]
theorem Z9.mono {P:Program}{ι ι':Inj}{n n':Nm}{h h':Array Obj}{l:Loc}{b:Blk}(hb:Z9 P ι n h l b)
  (hi:∀i,n i→ι' i=ι i) (hn:n.le n') (hh:K8 b=true→h'[l.b]?=h[l.b]?):Z9 P ι' n' h' l b:=by
 cases b with
 | void=>trivial
 | dead=>trivial
 | cells rs k rows=>
  obtain⟨c,e,fz,h1,h2,h3,h4⟩:=hb
  refine⟨c,e,fz,by rw [hh rfl];exact h1,h2,h3,fun i hk=>?_⟩
  obtain⟨row,g1,g2,g3,g4⟩:=h4 i hk
  refine⟨row,g1,g2,R8 hn row g3,fun j hj=>?_⟩
  rw [g4 j hj]
  cases hr:row[j]? with
  | none=>rfl
  | some v=>simp [F7 hi v (R5.1 g3 v (List.mem_of_getElem? hr))]
 | map es=>
  obtain⟨h1,h2⟩:=hb
  refine⟨?_,fun e he=>⟨e.1.F4 hn (h2 e he).1,e.2.F4 hn (h2 e he).2⟩⟩
  rw [hh rfl,h1,lJ hi es 0 h2]
 | iter mp since seen=>
  obtain⟨h0,h1,sn,st,h2,h3,h4⟩:=hb
  refine⟨h0,fun x hx=>(hn x (h1 x hx)).1,sn,st,?_,h3,h4⟩
  rw [hh rfl,h2]
  cases mp with
  | none=>rfl
  | some x=>simp [hi x (h1 x rfl)]
 | tail p=>
  obtain⟨h1,h2⟩:=hb
  exact⟨(hn p h1).1,by rw [hi p h1];exact h2⟩
 | loop st pend env params assign body=>
  obtain⟨L,h1,h2⟩:=hb
  exact⟨L,by rw [hh rfl];exact h1,h2.mono hi hn⟩
 | deferred=>exact (hh rfl).trans hb
 | siter s pos=>exact⟨hb.1,(hh rfl).trans hb.2⟩
 | buf ty s=>
  obtain⟨h0,c,fz,h1,h2⟩:=hb
  exact⟨h0,c,fz,(hh rfl).trans h1,h2⟩
 | mapU es=>
  obtain⟨L,ck,h1,⟨h2,h3,h4⟩,h5⟩:=hb
  refine⟨L,ck,(hh rfl).trans h1,⟨?_,h3,h4⟩,fun e he=>⟨e.1.F4 hn (h5 e he).1,e.2.F4 hn (h5 e he).2⟩⟩
  have:es.map (fun e=>(l6 ι' e.1,l6 ι' e.2))=es.map fun e=>(l6 ι e.1,l6 ι e.2):=List.map_congr_left fun e he=>by rw [F7 hi _ (h5 e he).1,F7 hi _ (h5 e he).2]
  rw [this];exact h2
theorem Mem.D7 {m:Mem}(h:T.Ok m.t m.next)(b:Blk)(i:Nat):(m.new b).get i=if i=m.next then some b else m.get i:=by
 show (m.t.put m.next b).get i=_
 split
 ·rename_i e;subst e;exact T.N7 h _ _ (Nat.le_refl _)
 ·rename_i e;exact T.O8 h _ _ _ (Nat.le_refl _) (fun h=>e h.symm)
theorem Mem.K4 {m:Mem}(h:T.Ok m.t m.next){j:Nat}(hj:j<m.next)(b:Blk)(i:Nat):(m.set j b).get i=if i=j then some b else m.get i:=by
 show (m.t.put j b).get i=_
 split
 ·rename_i e;subst e;exact T.N7 h _ _ (Nat.le_of_lt hj)
 ·rename_i e;exact T.O8 h _ _ _ (Nat.le_of_lt hj) (fun h=>e h.symm)
theorem Mem.y9 {m:Mem}(h:T.Ok m.t m.next){i:Nat}{b:Blk}(hi:m.get i=some b):i<m.next:=(h.get i).1 ⟨b,hi⟩
@[simp] theorem Mem.BH (m:Mem)(b:Blk):(m.new b).next=m.next+1:=rfl
@[simp] theorem Mem.La (m:Mem)(b:Blk):(m.new b).lim=m.lim:=rfl
@[simp] theorem Mem.RG (m:Mem)(i:Nat)(b:Blk):(m.set i b).next=m.next:=rfl
@[simp] theorem Mem.TF (m:Mem)(i:Nat)(b:Blk):(m.set i b).lim=m.lim:=rfl
def Inj.upd (ι:Inj)(i:Nat)(l:Loc):Inj:=fun j=>if j=i then l else ι j
@[simp] theorem Inj.G6 (ι:Inj)(i:Nat)(l:Loc):ι.upd i l i=l:=by simp [Inj.upd]
theorem Inj.upd_ne (ι:Inj){i j:Nat}(l:Loc)(h:j≠i):ι.upd i l j=ι j:=by simp [Inj.upd,h]
theorem R9 {P:Program}{ι:Inj}{n:Nm}{h:Array Obj}{l:Loc}{b:Blk}(hb:Z9 P ι n h l b)(hl:K8 b=true):l.b<h.size:=by
 cases b with
 | void=>cases hl
 | dead=>cases hl
 | tail=>cases hl
 | cells rs k rows=>obtain⟨c,e,fz,h1,_⟩:=hb;exact (Array.getElem?_eq_some_iff.1 h1).1
 | map es=>obtain⟨h1,_⟩:=hb;exact (Array.getElem?_eq_some_iff.1 h1).1
 | iter mp since seen=>obtain⟨_,_,sn,st,h1,_⟩:=hb;exact (Array.getElem?_eq_some_iff.1 h1).1
 | loop=>obtain⟨L,h1,_⟩:=hb;exact (Array.getElem?_eq_some_iff.1 h1).1
 | deferred=>exact (Array.getElem?_eq_some_iff.1 hb).1
 | siter s pos=>exact (Array.getElem?_eq_some_iff.1 hb.2).1
 | buf ty s=>obtain⟨_,c,fz,h1,_⟩:=hb;exact (Array.getElem?_eq_some_iff.1 h1).1
 | mapU es=>obtain⟨L,ck,h1,_⟩:=hb;exact (Array.getElem?_eq_some_iff.1 h1).1
structure Laid (m m':Mem)(nid:Nat)(b:Blk):Prop where
 ok:T.Ok m'.t m'.next
 get:∀i,m'.get i=if i=nid then some b else m.get i
 lim:m'.lim=m.lim
 next:m.next≤m'.next
 le:m.lim≤nid
 free:¬ m.has nid
 live:ah b=false
theorem Laid.new {m:Mem}(h:T.Ok m.t m.next)(hl:m.lim≤m.next)(b:Blk)(hb:ah b=false):Laid m (m.new b) m.next b:=
 ⟨h.push b,Mem.D7 h b,rfl,Nat.le_succ _,hl,fun ⟨_,h1,_⟩=>Nat.lt_irrefl _ (Mem.y9 h h1),hb⟩
theorem Laid.set {m:Mem}(h:T.Ok m.t m.next){i:Nat}(hi:m.get i=some .void)(hl:m.lim≤i)(b:Blk)(hb:ah b=false):Laid m (m.set i b) i b:=
 ⟨h.put i b (Mem.y9 h hi),Mem.K4 h (Mem.y9 h hi) b,rfl,Nat.le_refl _,hl,fun ⟨_,h1,h2⟩=>(by rw [hi] at h1;cases h1;cases h2),hb⟩
theorem Laid.has {m m':Mem}{nid:Nat}{b:Blk}(h:Laid m m' nid b)(i:Nat)(hi:m.has i):m'.has i:=by
 have hne:i≠nid:=fun e=>h.free (e▸hi)
 obtain⟨x,h1,h2⟩:=hi
 exact⟨x,by rw [h.get,if_neg hne];exact h1,h2⟩
theorem Laid.self {m m':Mem}{nid:Nat}{b:Blk}(h:Laid m m' nid b):m'.has nid:=⟨b,by rw [h.get,if_pos rfl],h.live⟩
theorem jE {m:Mem}{i:Nat}{b:Blk}(h:m.get i=some b)(hl:K8 b=true):m.has i:=⟨b,h,by cases b<;>first | rfl | cases hl⟩
structure OG (w w':World)(o:Obj):Prop where
 heap:w'.heap=w.heap.push o
 os:w'.os=w.os
 out:w'.output=w.output
 tape:w'.tape=w.tape
theorem Step.lay {P:Program}{G:Mem}{ι:Inj}{m m':Mem}{w w':World}(h:RM P G ι m w.heap){nid:Nat}{b:Blk}(hm:Laid m m' nid b){o:Obj}(hw:OG w w' o){l:Loc}
  (hl:l.b=w.heap.size) (hs:l.spot=none)
  (hb:Z9 P (ι.upd nid l) (m'.nm (ι.upd nid l)) (w.heap.push o) l b)
  (hf:∀c e fz,o=.cells c e fz→∀k,k<c.size→¬ (fz.1≤k∧k<fz.2)):
  Step P G ι m w (ι.upd nid l) m' w':=by
 have hold:∀i x,m.get i=some x→K8 x=true→(ι i).b<w.heap.size:=fun i x hx hlx=>R9 (h.blk i x hx) hlx
 have hpush:∀k,k<w.heap.size→w'.heap[k]?=w.heap[k]?:=fun k hk=>by rw [hw.heap];exact Array.getElem?_push_lt hk |>.trans (Array.getElem?_eq_getElem hk).symm
 have hext:∀j,m.has j→ι.upd nid l j=ι j:=fun j hj=>ι.upd_ne l fun e=>hm.free (e▸hj)
 refine⟨⟨hm.ok,?_,?_,by rw [hm.lim];exact h.glim,by rw [hm.lim];exact Nat.le_trans h.limn hm.next,h.gle,fun i hi=>by rw [hm.get,if_neg (by have:=hm.le;have:=h.glim;omega)];exact h.base i hi,fun i hi=>hm.has i (h.ghas i hi),?_,?_,h.EX fun k hk _=>hpush k hk⟩,hext,hm.has,hm.next,hm.lim,?_,by rw [hw.heap];simp,?_,?_,hw.os,hw.out,hw.tape⟩
 ·intro i x hx
  rw [hm.get] at hx
  split at hx
  ·rename_i e;subst e;cases hx;rw [hw.heap];simpa using hb
  ·rename_i e
   rw [ι.upd_ne l e]
   exact (h.blk i x hx).mono (n:=m.nm ι) hext (Mem.O6 hm.has hext) (fun hlx=>hpush _ (hold i x hx hlx))
 ·intro i x hi hx hlx
  rw [hm.lim] at hi
  rw [hm.get] at hx
  split at hx
  ·rename_i e;subst e;cases hx
   refine⟨fun j y hj hy hly=>?_,fun c e fz hc=>?_⟩
   ·rw [hm.get,if_neg hj] at hy
    rw [ι.upd_ne l hj,ι.G6,hl]
    have:=hold j y hy hly;omega
   ·rw [ι.G6,hl,hw.heap] at hc
    simp at hc
    exact hf c e fz hc
  ·rename_i e
   have ho:=h.own i x hi hx hlx
   have hb':=hold i x hx hlx
   refine⟨fun j y hj hy hly=>?_,fun c e' fz hc=>?_⟩
   ·rw [ι.upd_ne l e]
    rw [hm.get] at hy
    split at hy
    ·rename_i ej;subst ej;cases hy;rw [ι.G6,hl];omega
    ·rename_i ej;rw [ι.upd_ne l ej];exact ho.alone j y hj hy hly
   ·rw [ι.upd_ne l e] at hc
    rw [hpush _ hb'] at hc
    exact ho.free c e' fz hc
 ·intro i hi
  rw [hext i (h.ghas i hi)];exact h.glob i hi
 ·intro i x hx hlx
  rw [hm.get] at hx
  split at hx
  ·rename_i e;subst e;rw [ι.G6];exact hs
  ·rename_i e;rw [ι.upd_ne l e];exact h.spot i x hx hlx
 ·intro i hi
  rw [hm.get,if_neg (by have:=hm.le;omega)]
 ·intro b' hb' _;exact hpush b' hb'
 ·rintro b' ⟨i,x,hi,hx,hlx,rfl⟩
  rw [hm.lim] at hi
  rw [hm.get] at hx
  split at hx
  ·rename_i e;subst e;right;rw [ι.G6,hl];exact Nat.le_refl _
  ·rename_i e;left
   rw [ι.upd_ne l e]
   exact⟨i,x,hi,hx,hlx,rfl⟩
theorem Step.name {P:Program}{G:Mem}{ι:Inj}{m m':Mem}{w:World}(h:RM P G ι m w.heap){nid:Nat}{b:Blk}(hm:Laid m m' nid b)(hd:K8 b=false){l:Loc}
  (hb:Z9 P (ι.upd nid l) (m'.nm (ι.upd nid l)) w.heap l b):Step P G ι m w (ι.upd nid l) m' w:=by
 have hext:∀j,m.has j→ι.upd nid l j=ι j:=fun j hj=>ι.upd_ne l fun e=>hm.free (e▸hj)
 have hne:∀i x,m'.get i=some x→K8 x=true→i≠nid∧m.get i=some x:=fun i x hx hlx=>by
  rw [hm.get] at hx
  split at hx
  ·cases hx;rw [hd] at hlx;cases hlx
  ·exact⟨by assumption,hx⟩
 refine⟨⟨hm.ok,?_,?_,by rw [hm.lim];exact h.glim,by rw [hm.lim];exact Nat.le_trans h.limn hm.next,h.gle,fun i hi=>by rw [hm.get,if_neg (by have:=hm.le;have:=h.glim;omega)];exact h.base i hi,fun i hi=>hm.has i (h.ghas i hi),?_,?_,h.gsz⟩,hext,hm.has,hm.next,hm.lim,?_,Nat.le_refl _,fun _ _ _=>rfl,?_,rfl,rfl,rfl⟩
 ·intro i x hx
  rw [hm.get] at hx
  split at hx
  ·rename_i e;subst e;cases hx;simpa using hb
  ·rename_i e
   rw [ι.upd_ne l e]
   exact (h.blk i x hx).mono (n:=m.nm ι) hext (Mem.O6 hm.has hext) (fun _=>rfl)
 ·intro i x hi hx hlx
  rw [hm.lim] at hi
  obtain⟨h1,h2⟩:=hne i x hx hlx
  have ho:=h.own i x hi h2 hlx
  refine⟨fun j y hj hy hly=>?_,fun c e' fz hc=>?_⟩
  ·obtain⟨h3,h4⟩:=hne j y hy hly
   rw [ι.upd_ne l h1,ι.upd_ne l h3];exact ho.alone j y hj h4 hly
  ·rw [ι.upd_ne l h1] at hc;exact ho.free c e' fz hc
 ·intro i hi
  rw [hext i (h.ghas i hi)];exact h.glob i hi
 ·intro i x hx hlx
  obtain⟨h1,h2⟩:=hne i x hx hlx
  rw [ι.upd_ne l h1];exact h.spot i x h2 hlx
 ·intro i hi
  rw [hm.get,if_neg (by have:=hm.le;omega)]
 ·rintro b' ⟨i,x,hi,hx,hlx,rfl⟩
  rw [hm.lim] at hi
  obtain⟨h1,h2⟩:=hne i x hx hlx
  rw [ι.upd_ne l h1]
  exact .inl ⟨i,x,hi,h2,hlx,rfl⟩
def adZ (ι:Inj)(n:Nm)(done:List (Option Nat))(ls:List j3)(tmps:Array Value):Prop:=
 ∀t k,dQ t done 0=some k→∃v,ls[k]?=some v∧v.lt n∧tmps.getD t undef=l6 ι v
structure St (P:Program)(ι:Inj)(n:Nm)(slots:List Nat)(done:List (Option Nat))(ls:List j3)(env:T j3)(tmps:Array Value):Prop where
 ls:adZ ι n done ls tmps
 env:M8 ι n slots env tmps
 glob:∀i,i<P.globals.size→(ι i).b=i∧(ι i).base=0∧(ι i).spot=none
 gn:∀g,g<P.globals.size→n g
section
variable {P:Program}{G:Mem}{ι:Inj}{n:Nm}{slots:List Nat}{done:List (Option Nat)}{ls:List j3}{env:T j3}{a:Act}
theorem zT (k:Nat):∀(ls:List j3) (env:T j3),trO (.loc k) ls env=ls[k]?.getD .undef:=by
 intro ls env
 match k with
 | 0=>cases ls<;>rfl
 | 1=>match ls with | [] | [_] | _ :: _ :: _=>rfl
 | 2=>match ls with | [] | [_] | [_,_] | _ :: _ :: _ :: _=>rfl
 | 3=>match ls with | [] | [_] | [_,_] | [_,_,_] | _ :: _ :: _ :: _ :: _=>rfl
 | k+4=>show nth (k+4) ls=_;exact Ki _ _
theorem IC (j:Nat)(h:j<2^60)(ls:List j3)(env:T j3):trO (.slot j) ls env=(env.get j).getD .undef:=by
 show way 64 j env=_
 exact OE 64 j env (by have:(2:Nat)^60+1<2^64:=by decide
                       omega)
theorem l9 (s:St P ι n slots done ls env a.tmps){x:Operand}{o:Opd}(h:J7 P slots done x=some o):
  a.eval x=l6 ι (trO o ls env)∧(trO o ls env).lt n:=by
 cases x with
 | tmp t=>
  simp only [J7] at h
  cases hk:dQ t done 0 with
  | some k=>
   simp only [hk,Option.some.injEq] at h;subst h
   obtain⟨v,h1,h2,h3⟩:=s.ls t k hk
   rw [zT,h1];exact⟨h3,h2⟩
  | none=>
   simp only [hk] at h
   cases hj:idxOf t slots 0 with
   | none=>simp [hj] at h
   | some j=>
    simp only [hj,Option.some.injEq] at h;subst h
    obtain⟨_,v,h1,h2,h3⟩:=s.env.val t j hj
    rw [IC j (by have:=(lH hj).2.1;have:=s.env.small;omega),h1];exact⟨h3,h2⟩
 | const v=>
  simp only [J7] at h
  cases hv:ofValue v with
  | none=>simp [hv] at h
  | some c=>
   simp only [hv,Option.some.injEq] at h;subst h
   obtain⟨h1,h2⟩:=fq ι v c hv
   exact⟨h1.symm,h2 n⟩
 | global g=>
  simp only [J7] at h
  split at h
  ·rename_i hg
   cases h
   obtain⟨h1,h2,h3⟩:=s.glob g hg
   refine⟨?_,?_⟩
   ·show Value.pointer (some ⟨g,0,none⟩)=.pointer (some (ι.at g 0))
    rw [Inj.qH h3,h1,h2]
   ·exact s.gn g hg
  ·cases h
 | func f=>
  simp only [J7,Option.some.injEq] at h;subst h
  exact⟨by simp [Act.eval,trO,x9,l6,dS,l8],by simp [trO,x9,j3.lt,RD,ltL]⟩
theorem dJ (s:St P ι n slots done ls env a.tmps):∀{l:List Operand} {os:List Opd},fT P slots done l=some os→
  l.map a.eval=l8 ι (evs (iE os) ls env)∧ltL n (evs (iE os) ls env)
 | [],os,h=>by simp only [fT,Option.some.injEq] at h;subst h;simp [iE,evs,l8,ltL]
 | x::l,os,h=>by
  simp only [fT] at h
  cases hx:J7 P slots done x with
  | none=>simp [hx] at h
  | some o=>
   cases hl:fT P slots done l with
   | none=>simp [hx,hl] at h
   | some r=>
    simp only [hx,hl,Option.some.injEq] at h;subst h
    obtain⟨h1,h2⟩:=l9 s hx
    obtain⟨h3,h4⟩:=dJ s hl
    refine⟨?_,?_⟩
    ·show a.eval x::l.map a.eval=l6 ι (trO o ls env)::l8 ι (evs (iE r) ls env)
     rw [h1,h3]
    ·exact⟨h2,h4⟩
end
section
variable {P:Program}{G:Mem}{w:World}
theorem run_underlying {t:TypeId}{d:TypeDesc}(h:P.underlying t=some d):(underlying t).run P w=.ok d w:=by simp [underlying,h]
theorem run_sizeOf {t:TypeId}{k:Nat}(h:aS P t=some k):(sizeOf t).run P w=.ok k w:=by
 simp only [aS,Option.map_eq_some_iff] at h
 obtain⟨i,h1,h2⟩:=h
 simp [sizeOf,typeInfo,h1,h2]
theorem lK {t:TypeId}{k:Nat}(h:Z5 P t=some k):∃i,(typeInfo t).run P w=.ok i w∧i.bytes=k:=by
 simp only [Z5,Option.map_eq_some_iff] at h
 obtain⟨i,h1,h2⟩:=h
 exact⟨i,by simp [typeInfo,h1],h2⟩
theorem iY {t:TypeId}{b:Bool}(h:zJ P t=some b):(isAgg t).run P w=.ok b w:=by
 simp only [zJ] at h
 cases hu:P.underlying t with
 | none=>simp [hu] at h
 | some d=>
  simp only [isAgg,Sem.run_bind,run_underlying hu,Result.andThen_ok]
  cases d<;>simp_all
theorem uh {t:TypeId}{s:Option Nat}(h:partT P t=some s):(s=none∧zJ P t=some false∧∃k,aS P t=some k)∨(∃k,s=some k∧zJ P t=some true∧aS P t=some k):=by
 simp only [partT] at h
 split at h
 ·rename_i k h1 h2;cases h;exact .inr ⟨k,rfl,h1,h2⟩
 ·rename_i k h1 h2;cases h;exact .inl ⟨rfl,h1,k,h2⟩
 ·cases h
theorem Q5 {t:TypeId}{z:List j3}(h:nE P t=some z)(ι:Inj):∃v,(zeroValue t).run P w=.ok v w∧v.cells=(l8 ι z).toArray∧∀n,ltL n z:=by
 simp only [nE] at h
 cases hi:P.info? t with
 | none=>simp [hi] at h
 | some i=>
  cases hz:i.zero with
  | none=>simp [hi,hz] at h
  | some v=>
   cases ha:ofValue v with
   | none=>simp [hi,hz,ha] at h
   | some a=>
    simp only [hi,hz,ha,Option.bind_some,Option.some.injEq] at h;subst h
    obtain⟨h1,h2⟩:=fq ι v a ha
    exact⟨v,by simp [zeroValue,typeInfo,hi,hz],by rw [← h1,dI],fun n=>lG (h2 n)⟩
theorem fU {t:TypeId}{z:j3}(h:zeroV P t=some z)(ι:Inj):(zeroValue t).run P w=.ok (l6 ι z) w∧∀n,z.lt n:=by
 simp only [zeroV] at h
 cases hi:P.info? t with
 | none=>simp [hi] at h
 | some i=>
  cases hz:i.zero with
  | none=>simp [hi,hz] at h
  | some v=>
   simp only [hi,hz,Option.bind_some] at h
   obtain⟨h1,h2⟩:=fq ι v z h
   exact⟨by simp [zeroValue,typeInfo,hi,hz,h1],h2⟩
end
theorem qJ (n:Int)(h:-9223372036854775808≤n∧n<9223372036854775808):IntKind.i64.wrap n=n:=by
 have e1:((2:Int)^IntKind.i64.bits)=18446744073709551616:=rfl
 have e2:((2:Int)^(IntKind.i64.bits-1))=9223372036854775808:=rfl
 unfold IntKind.wrap
 rw [e1,e2]
 show (if (true&&decide (n%18446744073709551616≥9223372036854775808))=true then n%18446744073709551616-18446744073709551616 else n%18446744073709551616)=n
 obtain⟨h1,h2⟩:=h
 by_cases hn:0≤n
 ·have:n%18446744073709551616=n:=Int.emod_eq_of_lt hn (by omega)
  rw [this,if_neg (by simp only [Bool.true_and,decide_eq_true_eq];omega)]
 ·have:n%18446744073709551616=n+18446744073709551616:=by
   rw [← Int.add_emod_right];exact Int.emod_eq_of_lt (by omega) (by omega)
  rw [this,if_pos (by simp only [Bool.true_and,decide_eq_true_eq];omega)]
  omega
theorem OH (n:Int):w64 n=IntKind.i64.wrap n:=by
 cases n with
 | ofNat m=>
  simp only [w64]
  cases h:Nat.blt m 9223372036854775808 with
  | true=>
   have:m<9223372036854775808:=(Eq.mp Nat.blt_eq h)
   have hw:=qJ (Int.ofNat m) ⟨by have:(0:Int)≤Int.ofNat m:=Int.natCast_nonneg m
                                 omega,by have:Int.ofNat m=(m:Int):=rfl
                                          omega⟩
   exact (H9 _ _).trans hw.symm
  | false=>exact J8 _ _
 | negSucc m=>
  simp only [w64]
  cases h:Nat.blt m 9223372036854775808 with
  | true=>
   have:m<9223372036854775808:=(Eq.mp Nat.blt_eq h)
   have e:=Int.negSucc_eq m
   have hw:=qJ (Int.negSucc m) ⟨by omega,by omega⟩
   exact (H9 _ _).trans hw.symm
  | false=>exact J8 _ _
theorem lM (k:IntKind)(n:Int):pQ k n=k.wrap n:=by
 cases k<;>first | exact OH n | rfl
theorem bI (a b:Int):aG a b=(a==b):=by
 cases a with
 | ofNat a=>
  cases b with
  | ofNat b=>
   show Nat.beq a b=_
   by_cases h:a=b
   ·subst h;simp [Nat.beq_refl]
   ·rw [show Nat.beq a b=false from Bool.eq_false_iff.2 fun e=>h (Nat.eq_of_beq_eq_true e)]
    exact (beq_eq_false_iff_ne.2 (fun e=>h (Int.ofNat.inj e))).symm
  | negSucc b=>exact (beq_eq_false_iff_ne.2 (fun e=>by cases e)).symm
 | negSucc a=>
  cases b with
  | ofNat b=>exact (beq_eq_false_iff_ne.2 (fun e=>by cases e)).symm
  | negSucc b=>
   show Nat.beq a b=_
   by_cases h:a=b
   ·subst h;simp [Nat.beq_refl]
   ·rw [show Nat.beq a b=false from Bool.eq_false_iff.2 fun e=>h (Nat.eq_of_beq_eq_true e)]
    exact (beq_eq_false_iff_ne.2 (fun e=>h (Int.negSucc.inj e))).symm
theorem blt_eq (a b:Nat):Nat.blt a b=decide (a<b):=by
 by_cases h:a<b
 ·rw [decide_eq_true h];exact (Eq.mpr Nat.blt_eq h)
 ·rw [decide_eq_false h];exact Bool.eq_false_iff.2 fun e=>h (Eq.mp Nat.blt_eq e)
theorem bJ (a b:Int):kW a b=decide (a<b):=by
 cases a with
 | ofNat a=>
  cases b with
  | ofNat b=>exact (blt_eq a b).trans (decide_eq_decide.2 (by show a<b↔(a:Int)<(b:Int);omega))
  | negSucc b=>exact (decide_eq_false (by rw [Int.negSucc_eq];show ¬ (a:Int) < _;omega)).symm
 | negSucc a=>
  cases b with
  | ofNat b=>exact (decide_eq_true (by rw [Int.negSucc_eq];show _<(b:Int);omega)).symm
  | negSucc b=>exact (blt_eq b a).trans (decide_eq_decide.2 (by rw [Int.negSucc_eq,Int.negSucc_eq];omega))
theorem EY (a b:IntKind):kEq a b=decide (a=b):=by cases a<;>cases b<;>rfl
theorem bK:∀a b:List UInt8,strEq a b=(a==b)
 | [],[]=>rfl
 | [],_ :: _=>rfl
 | _ :: _,[]=>rfl
 | x::a,y::b=>by
  show bi (Nat.beq x.toNat y.toNat) (strEq a b) false=_
  rw [bK a b]
  by_cases h:x=y
  ·subst h;simp [Nat.beq_refl]
  ·have:Nat.beq x.toNat y.toNat=false:=by
    rw [Bool.eq_false_iff];intro e
    exact h (UInt8.toNat_inj.1 (Nat.eq_of_beq_eq_true e))
   rw [this];simp [h]
theorem uj:∀a b:List UInt8,kH a b=Op.bytesLess a b
 | _,[]=>by cases ‹List UInt8› <;> rfl
 | [],_ :: _=>rfl
 | x::a,y::b=>by simp [kH,Op.bytesLess,uj a b]
theorem Inj.iZ (ι:Inj)(i o k:Nat):(ι.at i o).add k=ι.at i (o+k):=by
 unfold Addr.add Inj.at
 split
 ·rename_i h;subst h;rfl
 ·rename_i h
  have:¬ (o+k=0):=by omega
  simp [Nat.add_assoc,this]
  intro _ hk;exact absurd hk h
section
variable {β:Type}{v:j3}{r:β}
theorem V6 {k:Nat→Nat→Option β}(h:iP v k=some r):∃i o,v=.ptr i o∧k i o=some r:=by
 cases v<;>first | exact⟨_,_,rfl,h⟩ | (simp [iP] at h)
theorem dV {k:IntKind→Int→Option β}(h:vB v k=some r):∃i n,v=.int i n∧k i n=some r:=by
 cases v<;>first | exact⟨_,_,rfl,h⟩ | (simp [vB] at h)
theorem jF {k:Bool→Option β}(h:kV v k=some r):∃b,v=.bool b∧k b=some r:=by
 cases v<;>first | exact⟨_,rfl,h⟩ | (simp [kV] at h)
theorem aZ {k:List UInt8→Option β}(h:pO v k=some r):∃s,v=.str s∧k s=some r:=by
 cases v<;>first | exact⟨_,rfl,h⟩ | (simp [pO] at h)
theorem V7 {k:List j3→Option β}(h:zM v k=some r):∃l,v=.agg l∧k l=some r:=by
 cases v<;>first | exact⟨_,rfl,h⟩ | (simp [zM] at h)
theorem Lb {k:List j3→Option β}(h:JR v k=some r):∃l,v=.tuple l∧k l=some r:=by
 cases v<;>first | exact⟨_,rfl,h⟩ | (simp [JR] at h)
theorem nH {nl:Option β}{k:Nat→Option β}(h:zH v nl k=some r):(v=.nilMap∧nl=some r)∨∃i,v=.map i∧k i=some r:=by
 cases v<;>first | exact .inl ⟨rfl,h⟩ | exact .inr ⟨_,rfl,h⟩ | (simp [zH] at h)
theorem lN {nl:Option β}{k u:Nat→Nat→Nat→Nat→Option β}(h:vSl v nl k u=some r):
  (v=.nilSlice∧nl=some r)∨(∃a b c d,v=.slice a b c d∧k a b c d=some r)∨∃a b c d,v=.sliceU a b c d∧u a b c d=some r:=by
 cases v<;>first | exact .inl ⟨rfl,h⟩ | exact .inr (.inl ⟨_,_,_,_,rfl,h⟩) | exact .inr (.inr ⟨_,_,_,_,rfl,h⟩) | (simp [vSl] at h)
theorem zU {k:Fn→List j3→List j3→Option β}(h:JU v k=some r):∃f a b,v=.func f a b∧k f a b=some r:=by
 cases v<;>first | exact⟨_,_,_,rfl,h⟩ | (simp [JU] at h)
theorem Lc {n:Int}{k:Nat→Option β}(h:JV n k=some r):∃m:Nat,n=(m:Int)∧k m=some r:=by
 cases n with
 | ofNat m=>exact⟨m,rfl,h⟩
 | negSucc m=>simp [JV] at h
theorem aj {k:Nat→Option β}(h:kU v k=some r):∃i,∃m:Nat,v=.int i (m:Int)∧k m=some r:=by
 obtain⟨i,n,rfl,h⟩:=dV h
 obtain⟨m,rfl,h⟩:=Lc h
 exact⟨i,m,rfl,h⟩
theorem idx_eq {len:Nat}{k:Nat→Option β}(h:idx len v k=some r):∃i,∃m:Nat,v=.int i (m:Int)∧m<len∧k m=some r:=by
 obtain⟨i,m,rfl,h⟩:=aj h
 obtain⟨h1,h2⟩:=p9 h
 exact⟨i,m,rfl,Eq.mp Nat.blt_eq h1,h2⟩
end
section
variable {P:Program}{G:Mem}{ι:Inj}{n:Nm}
theorem jG {op:BinOp}{t:TypeId}{x y:Operand}{a b:Value}{w:World}
  (h:∀p q,a≠.agg p∨b≠.agg q) (h':a≠.nilIface∨b≠.nilIface∨tC x=true∨tC y=true):(eqGuard op t x y a b).run P w=.ok () w:=by
 unfold eqGuard
 cases op<;>simp<;>(
  split
  ·rename_i h1 h2
   rcases h' with h' | h' | h' | h'
   ·exact absurd rfl h'
   ·exact absurd rfl h'
   ·cases x<;>simp_all [tC]
   ·cases y<;>simp_all [tC]
  ·rename_i p q
   rcases h p q with h | h<;>exact absurd rfl h
  ·rfl)
theorem xI {op:BinOp}(h1:op≠.shl)(h2:op≠.shr){k:IntKind}{a b:Int}{v:j3}(h:Io op k a b=some v)(t:TypeId)(w:World):
  (binOp op t (.int k a) (.int k b)).run P w=.ok (l6 ι v) w∧v.lt n:=by
 cases op<;>first
  | exact absurd rfl h1
  | exact absurd rfl h2
  | (simp only [Io,fH,xg,Ig,iEq,iNe,iLt,iLe,iGt,iGe,acV,iOr,acW,Eu,Option.some.injEq] at h
     subst h
     simp [binOp,Op.intArith,Op.intCmp,Op.intBits,l6,j3.lt,lM,bI,bJ,vC,bne]
     done)
  | (simp only [Io,Rs,Tn,Tm] at h
     have hb:b≠0:=by rintro rfl;simp at h
     split at h
     ·exact absurd rfl hb
     ·cases h
      simp [binOp,Op.intDiv,hb,l6,j3.lt,lM])
  | (simp only [Io,iLe,iGe,Option.some.injEq] at h
     subst h
     simp [binOp,Op.intCmp,l6,j3.lt,bJ]
     rw [Bool.eq_iff_iff];simp)
theorem gJ (s:List UInt8):(⟨s.toArray⟩:ByteArray).size=s.length:=by simp [ByteArray.size]
theorem xJ {op:BinOp}{a b:List UInt8}{v:j3}(h:Ip op a b=some v)(t:TypeId)(w:World):
  (binOp op t (.string ⟨a.toArray⟩) (.string ⟨b.toArray⟩)).run P w=.ok (l6 ι v) w∧v.lt n:=by
 cases op<;>first
  | (simp only [Ip,cu] at h;cases h;done)
  | (simp only [Ip,sEq,sNe,sLt,sLe,sGt,sGe,Option.some.injEq] at h
     subst h
     simp [binOp,Op.stringOp,l6,j3.lt,bK,uj]
     done)
  | (simp only [Ip,fK] at h
     obtain⟨h1,h2⟩:=p9 h
     cases h2
     have h3:len' a+len' b<9223372036854775808:=Eq.mp Nat.blt_eq h1
     simp only [C8] at h3
     simp [binOp,Op.stringOp,gJ,l6,j3.lt]
     rw [if_neg (by omega)]
     congr 3)
theorem jH {op:BinOp}(h1:op≠.shl)(h2:op≠.shr){x y v:j3}(h:Eh (Io op) (Ip op) x y=some v)(t:TypeId)(w:World):
  (binOp op t (l6 ι x) (l6 ι y)).run P w=.ok (l6 ι v) w∧v.lt n:=by
 cases x<;>try (simp [Eh] at h;done)
 ·rename_i k a
  simp only [Eh] at h
  obtain⟨k',b,rfl,h⟩:=dV h
  obtain⟨h3,h4⟩:=p9 h
  rw [EY,decide_eq_true_eq] at h3
  subst h3
  exact xI h1 h2 h4 t w
 ·rename_i a
  simp only [Eh] at h
  obtain⟨b,rfl,h⟩:=aZ h
  exact xJ h t w
theorem EZ {op:BinOp}{x y v:j3}(h:Eh (Io op) (Ip op) x y=some v):
  (∃k a,x=.int k a)∨∃a,x=.str a:=by
 cases x<;>first | exact .inl ⟨_,_,rfl⟩ | exact .inr ⟨_,rfl⟩ | (simp [Eh] at h;done)
theorem xK {x y v:j3}(h:Rt x y=some v)(t:TypeId)(w:World):(binOp .shl t (l6 ι x) (l6 ι y)).run P w=.ok (l6 ι v) w∧v.lt n:=by
 simp only [Rt] at h
 obtain⟨k,a,rfl,h⟩:=dV h
 obtain⟨i,m,rfl,h⟩:=aj h
 cases h
 simp [binOp,Op.shift,l6,j3.lt,lM,show ¬ ((m:Int)<0) from by omega]
theorem xL {x y v:j3}(h:Ru x y=some v)(t:TypeId)(w:World):(binOp .shr t (l6 ι x) (l6 ι y)).run P w=.ok (l6 ι v) w∧v.lt n:=by
 simp only [Ru] at h
 obtain⟨k,a,rfl,h⟩:=dV h
 obtain⟨i,m,rfl,h⟩:=aj h
 cases h
 simp [binOp,Op.shift,l6,j3.lt,show ¬ ((m:Int)<0) from by omega]
theorem qK (a b:Bool):xk a b=(a==b):=by cases a<;>cases b<;>rfl
theorem fV {x y:j3}{r:Bool}(h:J5 x y=some r):∃k a b,x=.int k a∧y=.int k b∧r=(a==b):=by
 obtain⟨k,a,h0,h1⟩:=dV h
 obtain⟨k',b,h2,h3⟩:=dV h1
 obtain⟨h4,h5⟩:=p9 h3
 rw [EY,decide_eq_true_eq] at h4
 subst h4;cases h5
 exact⟨_,_,_,h0,h2,bI _ _⟩
theorem ak {x y:j3}{r:Bool}(h:oz x y=some r):∃a b,x=.bool a∧y=.bool b∧r=(a==b):=by
 obtain⟨a,h0,h1⟩:=jF h
 obtain⟨b,h2,h3⟩:=jF h1
 cases h3
 exact⟨_,_,h0,h2,qK _ _⟩
theorem bf {x y:j3}{r:Bool}(h:eqStr x y=some r):∃a b,x=.str a∧y=.str b∧r=(a==b):=by
 obtain⟨a,h0,h1⟩:=aZ h
 obtain⟨b,h2,h3⟩:=aZ h1
 cases h3
 exact⟨_,_,h0,h2,bK _ _⟩
end
section
variable {P:Program}{G:Mem}{ι:Inj}{n:Nm}
theorem dK (a b:List j3):R6 [] a b=some true:=rfl
theorem bg (k:PK)(ks:List PK)(x y:j3)(a b:List j3):R6 (k::ks) (x::a) (y::b)=ob (Ih k x y) fun r=>bi r (R6 ks a b) (some false):=rfl
theorem bn {k:PK}{ks:List PK}{a b:List j3}{r:Bool}(h:R6 (k::ks) a b=some r):
  ∃x xs y ys s,a=x::xs∧b=y::ys∧Ih k x y=some s∧bi s (R6 ks xs ys) (some false)=some r:=by
 cases a with
 | nil=>cases h
 | cons x xs=>
  cases b with
  | nil=>cases h
  | cons y ys=>
   rw [bg] at h
   obtain⟨s,h1,h2⟩:=r9 h
   exact⟨x,xs,y,ys,s,rfl,rfl,h1,h2⟩
theorem CZ (ks ms:List PK):∀(a b:List j3) (r:Bool),R6 (ks++ms) a b=some r→
  (R6 ks a b=some false∧r=false)∨(R6 ks a b=some true∧R6 ms (a.drop ks.length) (b.drop ks.length)=some r):=by
 induction ks with
 | nil=>intro a b r h;right;exact⟨rfl,by simpa using h⟩
 | cons k ks ih=>
  intro a b r h
  obtain⟨x,xs,y,ys,s,rfl,rfl,h1,h2⟩:=bn h
  rw [bg,h1]
  cases s with
  | false=>left;cases h2;exact⟨rfl,rfl⟩
  | true=>simpa using ih xs ys r h2
theorem qL (ks:List PK):∀(m:Nat) (a b:List j3),ks.length≤m→R6 ks (a.take m) (b.take m)=R6 ks a b:=by
 induction ks with
 | nil=>intro m a b _;rfl
 | cons k ks ih=>
  intro m a b h
  obtain⟨m,rfl⟩:∃m',m=m'+1:=⟨m-1,by simp at h;omega⟩
  cases a with
  | nil=>rfl
  | cons x xs=>
   cases b with
   | nil=>rfl
   | cons y ys=>
    rw [List.take_succ_cons,List.take_succ_cons,bg,bg,ih m xs ys (by simpa using h)]
def mkV (ι:Inj)(agg:Bool)(l:List j3):Value:=if agg then .agg (l8 ι l).toArray else l6 ι (l.headD .undef)
theorem xM (ι:Inj)(l:List j3)(o k:Nat):((l8 ι l).toArray.extract o (o+k))=(l8 ι ((l.drop o).take k)).toArray:=by
 rw [List.extract_toArray]
 congr 1
 rw [N8,N8,List.extract_eq_take_drop,Nat.add_sub_cancel_left]
 simp [List.map_take,List.map_drop]
theorem lQ {t:TypeId}{agg:Bool}{k:Nat}(ha:zJ P t=some agg)(hs:aS P t=some k)(l:List j3)(o:Nat)(hl:agg=false→o<l.length∧k=1)(w:World):
  (part t (l8 ι l).toArray o).run P w=.ok (mkV ι agg ((l.drop o).take k)) w:=by
 simp only [part,Sem.run_bind,iY ha,Result.andThen_ok]
 cases agg with
 | true=>
  simp only [if_true,Sem.run_bind,run_sizeOf hs,Result.andThen_ok,Sem.run_pure,xM];rfl
 | false=>
  obtain⟨h,rfl⟩:=hl rfl
  have:(l8 ι l).toArray[o]?=some (l6 ι l[o]):=by simp [K7,List.getElem?_eq_getElem h]
  simp only [Bool.false_eq_true,if_false,this,mkV,Sem.run_pure]
  congr 2
  rw [List.drop_eq_getElem_cons h];rfl
theorem vL {t:TypeId}{k:IntKind}(h:P.underlying t=some (.int k)):zJ P t=some false:=by simp [zJ,h]
theorem Fa {t:TypeId}(h:P.underlying t=some .bool):zJ P t=some false:=by simp [zJ,h]
theorem zV {t:TypeId}(h:P.underlying t=some .string):zJ P t=some false:=by simp [zJ,h]
theorem gK {t:TypeId}{fs:Array Field}(h:P.underlying t=some (.struct fs)):zJ P t=some true:=by simp [zJ,h]
theorem kJ {t:TypeId}{k:IntKind}(h:P.underlying t=some (.int k)){x y:j3}{r:Bool}(he:J5 x y=some r)(d:Nat)(w:World):
  (Op.equalIn (d+1) t (l6 ι x) (l6 ι y)).run P w=.ok r w:=by
 obtain⟨k,a,b,rfl,rfl,rfl⟩:=fV he
 simp [Op.equalIn,run_underlying h,l6]
theorem oK {t:TypeId}(h:P.underlying t=some .bool){x y:j3}{r:Bool}(he:oz x y=some r)(d:Nat)(w:World):
  (Op.equalIn (d+1) t (l6 ι x) (l6 ι y)).run P w=.ok r w:=by
 obtain⟨a,b,rfl,rfl,rfl⟩:=ak he
 simp [Op.equalIn,run_underlying h,l6]
theorem dD (a b:List UInt8):((⟨a.toArray⟩:ByteArray)==⟨b.toArray⟩)=(a==b):=by
 show ByteArray.beq _ _=_
 simp [ByteArray.beq]
theorem qM {t:TypeId}(h:P.underlying t=some .string){x y:j3}{r:Bool}(he:eqStr x y=some r)(d:Nat)(w:World):
  (Op.equalIn (d+1) t (l6 ι x) (l6 ι y)).run P w=.ok r w:=by
 obtain⟨a,b,rfl,rfl,rfl⟩:=bf he
 simp [Op.equalIn,run_underlying h,l6,dD]
def bR (d:Nat)(X Y:Array Value):List Field→Sem Bool
 | []=>pure true
 | f::l=>do
  if f.name≠ "_" then
   if !(← Op.equalIn d f.type (← part f.type X f.offset) (← part f.type Y f.offset)) then return false
  bR d X Y l
theorem xO (d:Nat)(X Y:Array Value)(l:List Field):
  (do
   let s ← forIn l ((none,()):Option Bool×Unit) fun f _=>
    if f.name≠ "_" then do
     let a ← part f.type X f.offset
     let b ← part f.type Y f.offset
     let e ← Op.equalIn d f.type a b
     if (!e)=true then pure (ForInStep.done (some false,())) else pure (ForInStep.yield (none,()))
    else pure (ForInStep.yield (none,()))
   match s.fst with
   | some r=>pure r
   | none=>pure true:Sem Bool)=bR d X Y l:=by
 induction l with
 | nil=>simp [bR]
 | cons f l ih=>
  rw [List.forIn_cons]
  simp only [bR]
  rw [← ih]
  by_cases hf:f.name= "_"
  ·simp [hf]
  ·simp only [ne_eq,hf,not_false_eq_true,if_true,bind_assoc]
   congr 1;funext a
   congr 1;funext b
   congr 1;funext e
   cases e<;>simp
theorem tJ {t:TypeId}{fs:Array Field}(h:P.underlying t=some (.struct fs))(hs:P.stoodInHeld t=false)(X Y:Array Value)(d:Nat)(w:World):
  (Op.equalIn (d+1) t (.agg X) (.agg Y)).run P w=(bR d X Y fs.toList).run P w:=by
 simp only [Op.equalIn,Sem.run_bind,run_underlying h,Result.andThen_ok,run_program,hs]
 rw [← Array.forIn_toList,← xO]
 simp
 congr 1
 funext a w'
 obtain⟨o,u⟩:=a
 cases o<;>rfl
theorem xP:∀(d:Nat) (t:TypeId) (ks:List PK),aI P d t=some ks→∃agg,zJ P t=some agg∧aS P t=some ks.length∧(agg=false→ks.length=1)∧
  ∀D,d≤D→∀(a b:List j3) (r:Bool),R6 ks a b=some r→∀w,(Op.equalIn D t (mkV ι agg a) (mkV ι agg b)).run P w=.ok r w:=by
 intro d
 induction d with
 | zero=>intro t ks h;simp [aI] at h
 | succ d ih=>
  intro t ks h
  simp only [aI] at h
  cases hu:P.underlying t with
  | none=>simp [hu] at h
  | some u=>
   rw [hu] at h
   cases u<;>try (simp at h;done)
   ·
    simp only at h
    split at h
    ·rename_i hz;cases h
     refine⟨false,Fa hu,hz,fun _=>rfl,fun D hD a b r he w=>?_⟩
     obtain⟨x,xs,y,ys,s,rfl,rfl,h1,h2⟩:=bn he
     obtain⟨D,rfl⟩:∃D',D=D'+1:=⟨D-1,by omega⟩
     have:s=r:=by cases s<;>simpa [dK] using h2
     subst this
     exact oK hu h1 D w
    ·cases h
   ·simp only at h
    split at h
    ·rename_i hz;cases h
     refine⟨false,vL hu,hz,fun _=>rfl,fun D hD a b r he w=>?_⟩
     obtain⟨x,xs,y,ys,s,rfl,rfl,h1,h2⟩:=bn he
     obtain⟨D,rfl⟩:∃D',D=D'+1:=⟨D-1,by omega⟩
     have:s=r:=by cases s<;>simpa [dK] using h2
     subst this
     exact kJ hu h1 D w
    ·cases h
   ·simp only at h
    split at h
    ·rename_i hz;cases h
     refine⟨false,zV hu,hz,fun _=>rfl,fun D hD a b r he w=>?_⟩
     obtain⟨x,xs,y,ys,s,rfl,rfl,h1,h2⟩:=bn he
     obtain⟨D,rfl⟩:∃D',D=D'+1:=⟨D-1,by omega⟩
     have:s=r:=by cases s<;>simpa [dK] using h2
     subst this
     exact qM hu h1 D w
    ·cases h
   ·rename_i fs
    simp only at h
    cases hf:iW (aI P d) fs.toList 0 with
    | none=>simp [hf] at h
    | some ks'=>
     simp only [hf] at h
     split at h
     ·rename_i hz
      cases h
      refine⟨true,gK hu,hz.2,(fun h=>by cases h),fun D hD a b r he w=>?_⟩
      obtain⟨D,rfl⟩:∃D',D=D'+1:=⟨D-1,by omega⟩
      simp only [mkV,if_true]
      rw [tJ hu hz.1]
      have key:∀(l:List Field) (off:Nat) (ks₁:List PK) (pre:List PK),ks=pre++ks₁→pre.length=off→iW (aI P d) l off=some ks₁→
        ∀r,R6 ks₁ (a.drop off) (b.drop off)=some r→(bR D (l8 ι a).toArray (l8 ι b).toArray l).run P w=.ok r w:=by
       intro l
       induction l with
       | nil=>
        intro off ks₁ pre _ _ hl r hr
        simp only [iW,Option.some.injEq] at hl;subst hl
        rw [dK] at hr;cases hr
        simp [bR]
       | cons f l ihl=>
        intro off ks₁ pre hks hpre hl r hr
        simp only [iW] at hl
        split at hl
        ·rename_i hn
         cases hk:aI P d f.type with
         | none=>simp [hk] at hl
         | some kf=>
          simp only [hk] at hl
          cases hrest:iW (aI P d) l (off+kf.length) with
          | none=>simp [hrest] at hl
          | some kr=>
           simp only [hrest,Option.some.injEq] at hl;subst hl
           obtain⟨agg,ha,hsz,h1,hE⟩:=ih f.type kf hk
           have hne:∀(c:List j3),(a=c∨b=c)→agg=false→off<c.length∧kf.length=1:=by
            intro c hc hagg
            have h1':=h1 hagg
            refine⟨?_,h1'⟩
            cases kf with
            | nil=>simp at h1'
            | cons k0 kf=>
             obtain⟨x,xs,y,ys,s,e1,e2,_,_⟩:=bn hr
             rcases hc with rfl | rfl
             ·have:=congrArg List.length e1;simp at this;omega
             ·have:=congrArg List.length e2;simp at this;omega
           simp only [bR,if_pos hn.1,Sem.run_bind]
           rw [hn.2,lQ ha hsz _ _ (hne a (.inl rfl)),Result.andThen_ok,lQ ha hsz _ _ (hne b (.inr rfl)),Result.andThen_ok]
           rcases CZ kf kr _ _ r hr with⟨e1,rfl⟩ | ⟨e1,e2⟩
           ·rw [hE D (by omega) _ _ _ ((qL kf _ _ _ (Nat.le_refl _)).trans e1) w];simp
           ·rw [hE D (by omega) _ _ _ ((qL kf _ _ _ (Nat.le_refl _)).trans e1) w]
            simp only [Result.andThen_ok,Bool.not_true,Bool.false_eq_true,if_false]
            refine ihl (off+kf.length) kr (pre++kf) (by rw [hks];simp) (by simp [hpre]) hrest r ?_
            simpa [List.drop_drop] using e2
        ·cases hl
      exact key fs.toList 0 ks [] rfl rfl hf r (by simpa using he)
     ·cases h
end
section
variable {P:Program}{G:Mem}{ι:Inj}{n:Nm}
theorem Kj {t:TypeId}{x y:j3}{r:Bool}(hx:(∀k a,x≠.int k a)∧∀s,x≠.str s)(h:∀w,(Op.equal t (l6 ι x) (l6 ι y)).run P w=.ok r w)(w:World):
  (binOp .eql t (l6 ι x) (l6 ι y)).run P w=.ok (.bool r) w∧(binOp .neq t (l6 ι x) (l6 ι y)).run P w=.ok (.bool (!r)) w:=by
 have e1:binOp .eql t (l6 ι x) (l6 ι y)=(do pure (.bool (← Op.equal t (l6 ι x) (l6 ι y)))):=by
  cases x<;>simp_all [l6,binOp]
 have e2:binOp .neq t (l6 ι x) (l6 ι y)=(do pure (.bool (!(← Op.equal t (l6 ι x) (l6 ι y))))):=by
  cases x<;>simp_all [l6,binOp]
 rw [e1,e2]
 simp [h]
theorem zW {t e:TypeId}(hu:P.underlying t=some (.pointer e)){sz:Nat}(hs:aS P e=some sz){x y:j3}{r:Bool}(he:vD x y=some r)(d:Nat)(w:World):
  (Op.equalIn (d+1) t (l6 ι x) (l6 ι y)).run P w=.ok r w:=by
 cases x<;>cases y<;>simp only [vD,Option.some.injEq,reduceCtorEq] at he
 case ptr.ptr a b c d'=>
  obtain⟨h1,he⟩:=p9 he
  obtain⟨h2,he⟩:=p9 he
  cases he
  obtain rfl:=Nat.eq_of_beq_eq_true h1
  obtain rfl:=Nat.eq_of_beq_eq_true h2
  simp only [Op.equalIn,Sem.run_bind,run_underlying hu,l6,Result.andThen_ok,run_sizeOf hs]
  split<;>simp [sameAddr]
 all_goals (subst he;simp [Op.equalIn,run_underlying hu,l6])
theorem vM {t e:TypeId}(hu:P.underlying t=some (.slice e)){x y:j3}{r:Bool}(he:nA x y=some r)(d:Nat)(w:World):
  (Op.equalIn (d+1) t (l6 ι x) (l6 ι y)).run P w=.ok r w:=by
 cases x<;>cases y<;>simp only [nA,Option.some.injEq,reduceCtorEq] at he<;>subst he<;>simp [Op.equalIn,run_underlying hu,l6]
theorem zX {t k e:TypeId}(hu:P.underlying t=some (.map k e)){x y:j3}{r:Bool}(he:Ev x y=some r)(d:Nat)(w:World):
  (Op.equalIn (d+1) t (l6 ι x) (l6 ι y)).run P w=.ok r w:=by
 cases x<;>cases y<;>simp only [Ev,Option.some.injEq,reduceCtorEq] at he<;>subst he<;>simp [Op.equalIn,run_underlying hu,l6]
theorem xQ {t:TypeId}{a b:Array TypeId}{c:Bool}(hu:P.underlying t=some (.func a b c)){x y:j3}{r:Bool}(he:xq x y=some r)(d:Nat)(w:World):
  (Op.equalIn (d+1) t (l6 ι x) (l6 ι y)).run P w=.ok r w:=by
 cases x<;>cases y<;>simp only [xq,Option.some.injEq,reduceCtorEq] at he<;>subst he<;>simp [Op.equalIn,run_underlying hu,l6]
theorem vN {t:TypeId}{ms:Array (String×TypeId)}(hu:P.underlying t=some (.interface ms)){x y:j3}{r:Bool}(he:cB x y=some r)(d:Nat)(w:World):
  (Op.equalIn (d+1) t (l6 ι x) (l6 ι y)).run P w=.ok r w:=by
 cases x<;>cases y<;>simp only [cB,Option.some.injEq,reduceCtorEq] at he<;>subst he<;>simp [Op.equalIn,run_underlying hu,l6]
theorem xR {c:Bool}{t:TypeId}{k:EqK}(hk:eqT P c t=some k){x y:j3}{r:Bool}(he:pR k x y=some r)(d:Nat)(hd:10≤d+1)(w:World):
  (Op.equalIn (d+1) t (l6 ι x) (l6 ι y)).run P w=.ok r w:=by
 simp only [eqT] at hk
 cases hu:P.underlying t with
 | none=>simp [hu] at hk
 | some u=>
  rw [hu] at hk
  cases u<;>try (simp at hk;done)
  ·simp only [Option.some.injEq] at hk;subst hk;exact oK hu he d w
  ·simp only [Option.some.injEq] at hk;subst hk;exact kJ hu he d w
  ·simp only [Option.some.injEq] at hk;subst hk;exact qM hu he d w
  ·rename_i e
   simp only at hk
   cases hs:aS P e with
   | none=>rw [hs] at hk;cases hk
   | some sz=>rw [hs] at hk;cases hk;exact zW hu hs he d w
  ·simp only [Option.some.injEq] at hk;subst hk;exact vM hu he d w
  ·simp only [Option.some.injEq] at hk;subst hk;exact zX hu he d w
  ·rename_i fs
   simp only at hk
   cases hf:aI P 10 t with
   | none=>simp [hf] at hk
   | some ks=>
    simp only [hf] at hk
    split at hk
    ·cases hk
     obtain⟨l,rfl,h1⟩:=V7 he
     obtain⟨m,rfl,h2⟩:=V7 h1
     obtain⟨agg,ha,hsz,h3,h4⟩:=xP (P:=P) (ι:=ι) 10 t ks hf
     rw [gK hu] at ha;cases ha
     have:=h4 (d+1) hd l m r h2 w
     simpa [mkV,l6] using this
    ·cases hk
  ·simp only [Option.some.injEq] at hk;subst hk;exact xQ hu he d w
  ·simp only at hk
   split at hk
   ·cases hk;exact vN hu he d w
   ·cases hk
theorem qN {c:Bool}{t:TypeId}{k:EqK}(hk:eqT P c t=some k){x y:j3}{r:Bool}(he:pR k x y=some r)(w:World):
  (Op.equal t (l6 ι x) (l6 ι y)).run P w=.ok r w:=xR hk he 9999 (by omega) w
theorem IE {c:Bool}{t:TypeId}{k:EqK}(hk:eqT P c t=some k)(hki:k≠.prim .i)(hks:k≠.prim .s){x y:j3}{r:Bool}(he:pR k x y=some r)(w:World):
  (binOp .eql t (l6 ι x) (l6 ι y)).run P w=.ok (.bool r) w∧(binOp .neq t (l6 ι x) (l6 ι y)).run P w=.ok (.bool (!r)) w:=by
 refine Kj ?_ (fun w=>qN hk he w) w
 cases k<;>first
  | (rename_i p;cases p<;>first
    | exact absurd rfl hki
    | exact absurd rfl hks
    | (obtain⟨a,b,rfl,rfl,rfl⟩:=ak he;simp))
  | (obtain⟨l,rfl,_⟩:=V7 he;simp)
  | (cases x<;>cases y<;>simp [pR,vD,nA,Ev,xq,cB] at he ⊢)
def jc (d:Nat)(e:TypeId)(X Y:Array Value):List Nat→Sem Bool
 | []=>pure true
 | i::l=>do
  if !(← Op.equalIn d e (← part e X (i*1)) (← part e Y (i*1))) then return false
  jc d e X Y l
theorem Da (d:Nat)(e:TypeId)(X Y:Array Value)(l:List Nat):
  (do
   let s ← forIn l ((none,()):Option Bool×Unit) fun i _=>do
       let a ← part e X (i*1)
       let b ← part e Y (i*1)
       let r ← Op.equalIn d e a b
       if (!r)=true then pure (ForInStep.done (some false,())) else pure (ForInStep.yield (none,()))
   match s.fst with
   | some r=>pure r
   | none=>pure true:Sem Bool)=jc d e X Y l:=by
 induction l with
 | nil=>simp [jc]
 | cons f l ih=>
  rw [List.forIn_cons]
  simp only [jc]
  rw [← ih]
  simp only [bind_assoc]
  congr 1;funext a
  congr 1;funext b
  congr 1;funext r
  cases r<;>simp
theorem vO {t e:TypeId}{k:Nat}(h:P.underlying t=some (.array k e))(hs:aS P e=some 1)(X Y:Array Value)(d:Nat)(w:World):
  (Op.equalIn (d+1) t (.agg X) (.agg Y)).run P w=(jc d e X Y (List.range k)).run P w:=by
 simp only [Op.equalIn,Sem.run_bind,run_underlying h,Result.andThen_ok,run_sizeOf hs]
 rw [Std.Legacy.Range.forIn_eq_forIn_range']
 rw [← Da,List.range_eq_range']
 simp
 congr 1
 funext a w'
 obtain⟨o,u⟩:=a
 cases o<;>rfl
theorem Fb {e:TypeId}{kk:IntKind}(hu:P.underlying e=some (.int kk))(hs:aS P e=some 1)(a b:List j3)(d:Nat)(w:World):∀(j off:Nat) (r:Bool),
  R6 (List.replicate j .i) (a.drop off) (b.drop off)=some r→(jc (d+1) e (l8 ι a).toArray (l8 ι b).toArray (List.range' off j)).run P w=.ok r w:=by
 intro j
 induction j with
 | zero=>
  intro off r h
  rw [List.replicate_zero,dK] at h
  cases h
  simp [jc]
 | succ j ih=>
  intro off r h
  rw [List.replicate_succ] at h
  obtain⟨x,xs,y,ys,s,h1,h2,h3,h4⟩:=bn h
  have la:off<a.length:=by have:=congrArg List.length h1;simp at this;omega
  have lb:off<b.length:=by have:=congrArg List.length h2;simp at this;omega
  have ha:=lQ (P:=P) (ι:=ι) (vL hu) hs a off (fun _=>⟨la,rfl⟩) w
  have hb:=lQ (P:=P) (ι:=ι) (vL hu) hs b off (fun _=>⟨lb,rfl⟩) w
  rw [h1] at ha
  rw [h2] at hb
  have ha:(part e (l8 ι a).toArray off).run P w=.ok (l6 ι x) w:=ha
  have hb:(part e (l8 ι b).toArray off).run P w=.ok (l6 ι y) w:=hb
  have he:=kJ (ι:=ι) hu h3 d w
  rw [List.range'_succ]
  simp only [jc,Nat.mul_one,Sem.run_bind,ha,hb,he,Result.andThen_ok]
  cases s with
  | false=>
   have h4:some false=some r:=h4
   cases h4
   simp
  | true=>
   have h4:R6 (List.replicate j .i) xs ys=some r:=h4
   simp only [Bool.not_true,Bool.false_eq_true,if_false]
   refine ih (off+1) r ?_
   have e1:a.drop (off+1)=xs:=by rw [← List.drop_drop,h1];rfl
   have e2:b.drop (off+1)=ys:=by rw [← List.drop_drop,h2];rfl
   rw [e1,e2];exact h4
theorem qO {t:TypeId}{k:EqK}(h:RA P t=some k):∃n e kk,P.underlying t=some (.array n e)∧P.underlying e=some (.int kk)∧aS P e=some 1∧P.eqGuardType P.depth t=false∧k=.flat (List.replicate n .i):=by
 unfold RA at h
 split at h
 ·rename_i n e hu
  split at h
  ·rename_i kk he
   split at h
   ·rename_i hc
    cases h
    exact⟨n,e,kk,hu,he,hc.1,hc.2,rfl⟩
   ·cases h
  ·cases h
 ·cases h
theorem nI {c:Bool}{t:TypeId}{k:EqK}(h:OB P c t=some k):eqT P c t=some k∨RA P t=some k:=by
 unfold OB at h
 split at h
 ·rename_i k' hk;cases h;exact .inl hk
 ·exact .inr h
theorem Fe {c:Bool}{t:TypeId}{k:EqK}(hk:OB P c t=some k)(hki:k≠.prim .i)(hks:k≠.prim .s){x y:j3}{r:Bool}(he:pR k x y=some r)(w:World):
  (binOp .eql t (l6 ι x) (l6 ι y)).run P w=.ok (.bool r) w∧(binOp .neq t (l6 ι x) (l6 ι y)).run P w=.ok (.bool (!r)) w:=by
 rcases nI hk with hk | hk
 ·exact IE hk hki hks he w
 ·obtain⟨n,e,kk,hu,hue,hs,_,rfl⟩:=qO hk
  obtain⟨l,rfl,h1⟩:=V7 he
  obtain⟨m,rfl,h2⟩:=V7 h1
  refine Kj (by simp) (fun w=>?_) w
  have:Op.equal t (l6 ι (.agg l)) (l6 ι (.agg m))=Op.equalIn (9999+1) t (.agg (l8 ι l).toArray) (.agg (l8 ι m).toArray):=by simp [l6,Op.equal,Op.maxDepth]
  rw [this,vO hu hs,List.range_eq_range']
  exact Fb hue hs l m 9998 w n 0 r (by simpa using h2)
end
section
variable {P:Program}{G:Mem}{ι:Inj}{n:Nm}{slots:List Nat}{done:List (Option Nat)}{ls:List j3}{env:T j3}{a:Act}
def Gives (P:Program)(ρ:Operand→Value)(op:Op)(v:Value):Prop:=
 ∀(o:Oper),o.op=op→∀w,(execOp ρ o).run P w=.ok (.value v) w
theorem dW {op:BinOp}(h1:op≠.eql)(h2:op≠.neq){t:TypeId}{x y:Operand}{u v:Value}{w:World}:(eqGuard op t x y u v).run P w=.ok () w:=by
 unfold eqGuard
 cases op<;>first | exact absurd rfl h1 | exact absurd rfl h2 | simp
theorem zY {op:BinOp}{t:TypeId}{x y:Operand}{u v:Array Value}{w:World}(h:P.eqGuardType P.depth t=false):(eqGuard op t x y (.agg u) (.agg v)).run P w=.ok () w:=by
 unfold eqGuard
 cases op<;>simp [h]
theorem jd {op:BinOp}{t:TypeId}{x y:Operand}{yt:TypeId}{ρ:Operand→Value}{v:Value}
  (hg:∀w,(eqGuard op t x y (ρ x) (ρ y)).run P w=.ok () w) (h:∀w,(binOp op t (ρ x) (ρ y)).run P w=.ok v w):Gives P ρ (.binOp op t x y yt) v:=by
 intro o ho w
 simp [execOp,ho,hg,h]
theorem bind_eq {α β:Type}{o:Option α}{f:α→Option β}{b:β}(h:(o >>= f)=some b):∃a,o=some a∧f a=some b:=by
 cases o with
 | none=>cases h
 | some a=>exact⟨a,rfl,h⟩
theorem IG (p:Nat×Nat×OF)(ps:List (Nat×Nat×OF))(ls:List j3)(env:T j3)(cs:List j3):
  lay (p::ps) ls env cs=bi (Nat.beq (len' (p.2.2 ls env).cells) p.2.1) (bi (Nat.ble (Nat.add p.1 p.2.1) (len' cs)) (lay ps ls env (iO p.1 (p.2.2 ls env).cells cs)) none) none:=rfl
theorem pW (vs:List Value):∀(A:Array Value) (off i:Nat),off+i+vs.length≤A.size→
  ((vs.zipIdx i).foldl (fun cs (p:Value×Nat)=>cs.setIfInBounds (off+p.2) p.1) A).toList=A.toList.take (off+i)++(vs++A.toList.drop (off+i+vs.length)):=by
 induction vs with
 | nil=>intro A off i h;simp
 | cons v vs ih=>
  intro A off i h
  simp only [List.zipIdx_cons,List.foldl_cons,List.length_cons] at h ⊢
  rw [ih _ _ _ (by simp;omega)]
  simp only [Array.toList_setIfInBounds]
  have hlt:off+i<A.toList.length:=by simp;omega
  rw [List.take_set,show off+(i+1)=off+i+1 from by omega]
  rw [List.drop_set_of_lt (by omega)]
  rw [List.take_succ_eq_append_getElem hlt,List.set_append_right _ _ (by simp;omega)]
  simp [show min (off+i) A.size=off+i from by simp at hlt;omega]
  congr 1;omega
theorem qP (s:St P ι n slots done ls env a.tmps)(place:Nat→Option (Nat×Nat)):∀(parts:List (Nat×Operand)) (ps:List (Nat×Nat×Opd)),
  oH P slots done place parts=some ps→∀(cs r:List j3),ltL n cs→lay (CP ps) ls env cs=some r→
   Instr.fill place (l8 ι cs).toArray (parts.map fun p=>(p.1,a.eval p.2))=some (l8 ι r).toArray∧ltL n r∧r.length=cs.length:=by
 intro parts
 induction parts with
 | nil=>
  intro ps h cs r hcs hr
  simp only [oH,Option.some.injEq] at h;subst h
  cases hr
  exact⟨rfl,hcs,rfl⟩
 | cons p parts ih=>
  intro ps h cs r hcs hr
  simp only [oH] at h
  split at h
  ·rename_i off size x rest hp hx hrest
   cases h
   simp only [CP,IG] at hr
   obtain⟨h1,hr⟩:=p9 hr
   obtain⟨h2,hr⟩:=p9 hr
   obtain⟨e1,e2⟩:=l9 s hx
   simp only [C8] at h1 h2
   have h1':=Nat.eq_of_beq_eq_true h1
   have h2':off+size≤cs.length:=Nat.le_of_ble_eq_true h2
   have hlen:off+((trO x ls env).cells).length≤cs.length:=by omega
   have hov:=oJ off ((trO x ls env).cells) cs hlen
   obtain⟨g1,g2,g3⟩:=ih rest hrest _ r (by
    rw [R5] at hcs ⊢
    intro v hv
    rw [eZ off _ cs (by omega)] at hv
    simp only [List.mem_append] at hv
    rcases hv with hv | hv | hv
    ·exact hcs v (List.mem_of_mem_take hv)
    ·exact R5.1 (lG e2) v hv
    ·exact hcs v (List.mem_of_mem_drop hv)) hr
   refine⟨?_,g2,by rw [g3,hov]⟩
   simp only [List.map_cons,Instr.fill,hp]
   rw [e1,dI]
   simp only [List.size_toArray,G9]
   rw [if_neg (by simp [h1'];omega)]
   rw [← g1]
   congr 1
   have hf:=pW (l8 ι (trO x ls env).cells) (l8 ι cs).toArray off 0 (by simp;omega)
   apply Array.toList_inj.1
   rw [← Array.foldl_toList]
   simp only [Array.toList_zipIdx]
   refine hf.trans ?_
   simp only [N8,eZ off _ cs (show off≤cs.length by omega),List.map_append,List.map_take,List.map_drop,List.length_map,Nat.add_zero]
  ·cases h
theorem vP:∀(fs:List Field) (pl:List (Nat×Nat)),placesOf P fs=some pl→∀w,
  ((fs.mapM fun f=>do pure (f.offset,← sizeOf f.type):Sem (List (Nat×Nat)))).run P w=.ok pl w:=by
 intro fs
 induction fs with
 | nil=>intro pl h w;simp only [placesOf,Option.some.injEq] at h;subst h;simp
 | cons f fs ih=>
  intro pl h w
  simp only [placesOf] at h
  split at h
  ·rename_i s r h1 h2
   cases h
   have ih':=ih r h2 w
   simp only [bind_pure_comp] at ih'
   simp [List.mapM_cons,run_sizeOf h1,ih']
  ·cases h
theorem zZ (s:St P ι n slots done ls env a.tmps){t:TypeId}{parts:Array (Nat×Operand)}{o:AOp}(h:qF P slots done t parts.toList=some o):
  ∃zero ps,o=.p (.build zero ps)∧∀v,trP (.build zero ps) ls env=some v→v.lt n∧Gives P a.eval (.build t parts) (l6 ι v):=by
 simp only [qF] at h
 have harr:(parts.map fun p=>(p.1,a.eval p.2)).toList=parts.toList.map fun p=>(p.1,a.eval p.2):=by simp
 split at h
 ·rename_i zero fields hz hu
  split at h
  ·rename_i pl hpl
   split at h
   ·rename_i ps hps
    cases h
    refine⟨zero,ps,rfl,fun v hv=>?_⟩
    obtain⟨r,h1,h2⟩:=r9 hv
    cases h2
    obtain⟨z,hz1,hz2,hz3⟩:=Q5 (P:=P) (w:=default) hz ι
    obtain⟨g1,g2,_⟩:=qP s _ parts.toList ps hps zero r (hz3 n) h1
    refine⟨g2,fun o ho w=>?_⟩
    obtain⟨z,hz1,hz2,hz3⟩:=Q5 (P:=P) (w:=w) hz ι
    simp only [execOp,ho,Instr.build,Sem.run_bind,hz1,Result.andThen_ok,run_underlying hu,hz2]
    have hm:=vP (P:=P) fields.toList pl hpl w
    have hmm:(fields.mapM fun f=>do pure (f.offset,← sizeOf f.type):Sem (Array (Nat×Nat)))=Functor.map List.toArray (fields.toList.mapM fun f=>do pure (f.offset,← sizeOf f.type):Sem (List (Nat×Nat))):=by
     rw [← List.mapM_toArray]
    rw [hmm]
    simp only [Sem.run_map,hm,Result.andThen_ok,harr]
    have hfun:(fun x:Nat=>pl.toArray[x]?)=fun i:Nat=>pl[i]?:=by funext i;simp
    rw [hfun,g1]
    simp [l6]
   ·cases h
  ·cases h
 ·rename_i zero k elem hz hu
  split at h
  ·rename_i sz hsz
   split at h
   ·rename_i ps hps
    cases h
    refine⟨zero,ps,rfl,fun v hv=>?_⟩
    obtain⟨r,h1,h2⟩:=r9 hv
    cases h2
    obtain⟨z,hz1,hz2,hz3⟩:=Q5 (P:=P) (w:=default) hz ι
    obtain⟨g1,g2,_⟩:=qP s _ parts.toList ps hps zero r (hz3 n) h1
    refine⟨g2,fun o ho w=>?_⟩
    obtain⟨z,hz1,hz2,hz3⟩:=Q5 (P:=P) (w:=w) hz ι
    simp only [execOp,ho,Instr.build,Sem.run_bind,hz1,Result.andThen_ok,run_underlying hu,hz2,run_sizeOf hsz,harr]
    rw [g1]
    simp [l6]
   ·cases h
  ·cases h
 ·cases h
end
section
variable {P:Program}{G:Mem}{ι:Inj}{n:Nm}{slots:List Nat}{done:List (Option Nat)}{ls:List j3}{env:T j3}{a:Act}
theorem oL {α:Type}(p q:Nat)(x y:α):bi (Nat.beq p q) x y=if p=q then x else y:=by
 by_cases h:p=q
 ·subst h;rw [Nat.beq_refl,if_pos rfl];rfl
 ·rw [show Nat.beq p q=false from Bool.eq_false_iff.2 fun e=>h (Nat.eq_of_beq_eq_true e),if_neg h];rfl
theorem E8 {l:List j3}{v:j3}(h:ltL n l)(hv:v∈l):v.lt n:=R5.1 h v hv
def vQ (sz:Option Nat)(l:List j3)(o:Nat):Option j3:=match sz with
 | none=>l[o]?
 | some k=>ob (takeN k (l.drop o)) fun r=>some (.agg r)
theorem um {t:TypeId}{sz:Option Nat}(ht:partT P t=some sz){l:List j3}(hl:ltL n l)(o:Nat){v:j3}
  (hv:vQ sz l o=some v):
  v.lt n∧∀w,(part t (l8 ι l).toArray o).run P w=.ok (l6 ι v) w:=by
 rcases uh ht with⟨rfl,ha,k,hk⟩ | ⟨k,rfl,ha,hk⟩
 ·simp only [vQ] at hv
  refine⟨E8 hl (List.mem_of_getElem? hv),fun w=>?_⟩
  simp [part,iY ha,K7,hv]
 ·simp only [vQ] at hv
  obtain⟨r,h1,h2⟩:=r9 hv
  cases h2
  obtain⟨rfl,_⟩:=dH _ _ _ h1
  refine⟨R5.2 fun v hv=>E8 hl (List.mem_of_mem_drop (List.mem_of_mem_take hv)),fun w=>?_⟩
  simp [part,iY ha,run_sizeOf hk,l6,N8,List.map_take,List.map_drop]
theorem xS (s:St P ι n slots done ls env a.tmps){x:Option Operand}{o:Option Opd}(h:cOpt P slots done x=some o):
  (x=none∧o=none)∨∃y z,x=some y∧o=some z∧a.eval y=l6 ι (trO z ls env):=by
 cases x with
 | none=>simp only [cOpt,Option.some.injEq] at h;exact .inl ⟨rfl,h.symm⟩
 | some y=>
  simp only [cOpt] at h
  cases hy:J7 P slots done y with
  | none=>simp [hy] at h
  | some z=>
   simp only [hy,Option.some.injEq] at h
   exact .inr ⟨y,z,rfl,h.symm,(l9 s hy).1⟩
theorem je (s:St P ι n slots done ls env a.tmps){lo hi:Option Operand}{lo' hi':Option Opd}(hlo:cOpt P slots done lo=some lo')(hhi:cOpt P slots done hi=some hi')
  {β:Type} {k:Nat→Nat→Option β} {d:Nat} {r:β} (h:aH (ny lo') 0 ls env (fun l=>aH (ny hi') d ls env fun h=>k l h)=some r):
  ∃l h,k l h=some r∧(hi=none→h=d)∧(lo=none→l=0)∧
   (∀(isSlice:Bool) (len cap:Nat) (w:World),len=d→l≤h→h≤cap→(Instr.sliceBounds isSlice len cap (lo.map a.eval) (hi.map a.eval) none).run P w=.ok (l,h,cap) w):=by
 rcases xS s hlo with⟨rfl,rfl⟩ | ⟨y,z,rfl,rfl,hy⟩<;>rcases xS s hhi with⟨rfl,rfl⟩ | ⟨y',z',rfl,rfl,hy'⟩
 ·exact⟨0,d,h,fun _=>rfl,fun _=>rfl,fun is len cap w he _ _=>by subst he;simp [Instr.sliceBounds]⟩
 ·obtain⟨i,m,h1,h2⟩:=aj h
  refine⟨0,m,h2,(by simp),(by simp),fun is len cap w he h1' h2'=>?_⟩
  have h1:trO z' ls env=.int i (m:Int):=h1
  simp only [Option.map_some,Option.map_none,hy',h1,l6,Instr.sliceBounds,Instr.sliceBound,asIntOf]
  cases is<;>simp [h2']
 ·obtain⟨i,m,h1,h2⟩:=aj h
  refine⟨m,d,h2,(by simp),(by simp),fun is len cap w he h1' h2'=>?_⟩
  have h1:trO z ls env=.int i (m:Int):=h1
  subst he
  simp only [Option.map_some,Option.map_none,hy,h1,l6,Instr.sliceBounds,Instr.sliceBound,asIntOf]
  simp [h1']
 ·obtain⟨i,m,h1,h2⟩:=aj h
  obtain⟨i',m',h3,h4⟩:=aj h2
  refine⟨m,m',h4,(by simp),(by simp),fun is len cap w he h1' h2'=>?_⟩
  have h1:trO z ls env=.int i (m:Int):=h1
  have h3:trO z' ls env=.int i' (m':Int):=h3
  simp only [Option.map_some,hy,h1,hy',h3,l6,Instr.sliceBounds,Instr.sliceBound,asIntOf]
  cases is<;>simp [h1',h2']
theorem lS {t e:TypeId}{es:Nat}(hu:P.underlying t=some (.slice e))(hs:aS P e=some es)(ad:Addr)(len cap:Nat)(k:IntKind)(i:Nat)(hi:i<len)(w:World):
  (Instr.indexAt t (.slice (some ad) len cap) (.int k (i:Int))).run P w=.ok (.pointer (some (ad.add (i*es)))) w:=by
 simp [Instr.indexAt,asIntOf,run_underlying hu,run_sizeOf hs,hi]
theorem vR {t e:TypeId}{es len:Nat}(hu:P.underlying t=some (.array len e))(hs:aS P e=some es)(ad:Addr)(k:IntKind)(i:Nat)(hi:i<len)(w:World):
  (Instr.indexAt t (.pointer (some ad)) (.int k (i:Int))).run P w=.ok (.pointer (some (ad.add (i*es)))) w:=by
 simp [Instr.indexAt,asIntOf,run_underlying hu,run_sizeOf hs,hi,Instr.sureAddr]
theorem BI (mx:Bool):∀(ys:List j3) (x v:j3),ltL n ys→x.lt n→Ew mx ys x=some v→v.lt n∧
  ∀w,((l8 ι ys).foldlM (if mx then Builtin.max2 else Builtin.min2) (l6 ι x)).run P w=.ok (l6 ι v) w:=by
 intro ys
 induction ys with
 | nil=>intro x v _ hx h;cases h;exact⟨hx,fun w=>by simp [l8]⟩
 | cons y ys ih=>
  intro x v hys hx h
  have h:ob (mm2 mx x y) (fun z=>Ew mx ys z)=some v:=h
  obtain⟨z,h1,h2⟩:=r9 h
  simp only [mm2] at h1
  obtain⟨k,p,e1,h1⟩:=dV h1
  obtain⟨k',q,e2,h1⟩:=dV h1
  cases h1
  obtain⟨g1,g2⟩:=ih _ v hys.2 (by simp [j3.lt]) h2
  refine⟨g1,fun w=>?_⟩
  subst e1;subst e2
  simp only [l8,List.foldlM_cons,Sem.run_bind,l6]
  have:((if mx=true then Builtin.max2 else Builtin.min2) (.int k p) (.int k' q)).run P w=.ok (.int k (bi mx (bi (kW p q) q p) (bi (kW q p) q p))) w:=by
   cases mx
   ·simp only [Bool.false_eq_true,if_false,Builtin.min2,Sem.run_pure,J8,bJ]
    by_cases hlt:q<p
    ·simp [hlt]
    ·simp [hlt]
   ·simp only [if_true,Builtin.max2,Sem.run_pure,H9,bJ]
    by_cases hlt:p<q
    ·simp [hlt]
    ·simp [hlt]
  rw [this]
  exact g2 w
end
section
variable {P:Program}{G:Mem}{ι:Inj}{n:Nm}{slots:List Nat}{done:List (Option Nat)}{ls:List j3}{env:T j3}{a:Act}
theorem O4 {x y:POp}(h:(pure (AOp.p x):Option AOp)=some (.p y)):x=y:=by cases h;rfl
theorem Fg {f:FuncId}{fn:Func}(hf:P.funcs[f]?=some fn)(hb:fn.body.isNone=true)(hn:fn.name= "internal/abi.NoEscape")(hx:(Extern.findNext fn).isNone=true)(v:Value)(w:World):
  (callFunc f #[v]).run P w=.ok (.value v) w:=by
 have g1:Extern.allGenericRows.lookup "internal/abi.NoEscape"=none:=by kernel_rfl
 have g2:Extern.allTypedRows.lookup "internal/abi.NoEscape"=none:=by kernel_rfl
 have g3:Extern.allRows.lookup "internal/abi.NoEscape"=some Extern.AbiNoEscape.same:=by kernel_rfl
 have he:Extern.find fn=some Extern.AbiNoEscape.same:=by
  unfold Extern.find
  simp only [hn,g1,g2,g3];rfl
 rw [run_callFunc_extern hf (by rw [hn];decide) hb (by simpa using hx) he]
 rfl
set_option maxHeartbeats 1000000 in
theorem jI (s:St P ι n slots done ls env a.tmps){op:Op}{po:POp}(h:cOp P slots done op=some (.p po)){v:j3}(hv:trP po ls env=some v):
  v.lt n∧Gives P a.eval op (l6 ι v):=by
 cases op with
 | move x=>
  obtain⟨x',hx,h⟩:=bind_eq h
  obtain rfl:=O4 h
  cases hv
  obtain⟨e1,e2⟩:=l9 s hx
  exact⟨e2,fun o ho w=>by simp [execOp,ho,e1]⟩
 | assign x=>
  obtain⟨x',hx,h⟩:=bind_eq h
  obtain rfl:=O4 h
  cases hv
  obtain⟨e1,e2⟩:=l9 s hx
  exact⟨e2,fun o ho w=>by simp [execOp,ho,e1]⟩
 | pick c x y=>
  obtain⟨c',hc,h⟩:=bind_eq h
  obtain⟨x',hx,h⟩:=bind_eq h
  obtain⟨y',hy,h⟩:=bind_eq h
  obtain rfl:=O4 h
  obtain⟨b,h1,h2⟩:=jF hv
  have h1:trO c' ls env=.bool b:=h1
  obtain⟨e1,_⟩:=l9 s hc
  obtain⟨e2,e2'⟩:=l9 s hx
  obtain⟨e3,e3'⟩:=l9 s hy
  rw [h1] at e1
  cases b with
  | true=>cases h2;exact⟨e2',fun o ho w=>by simp [execOp,ho,e1,e2,l6,asBool]⟩
  | false=>cases h2;exact⟨e3',fun o ho w=>by simp [execOp,ho,e1,e3,l6,asBool]⟩
 | build t parts=>
  obtain⟨zero,ps,e,hb⟩:=zZ s (show qF P slots done t parts.toList=some (.p po) from h)
  cases e
  exact hb v hv
 | nilCheck x=>
  obtain⟨x',hx,h⟩:=bind_eq h
  obtain rfl:=O4 h
  obtain⟨e1,e2⟩:=l9 s hx
  have hv:tV (trO x' ls env)=some v:=hv
  generalize trO x' ls env=u at *
  have:v=u∧∀o:Oper,o.op=.nilCheck x→∀w,(execOp a.eval o).run P w=.ok (.value (l6 ι u)) w:=by
   cases u<;>simp only [tV,Option.some.injEq,reduceCtorEq] at hv<;>try (refine⟨hv.symm,fun o ho w=>?_⟩;simp [execOp,ho,e1,l6];done)
   rename_i fn p q
   cases fn<;>simp only [Option.some.injEq,reduceCtorEq] at hv
   refine⟨hv.symm,fun o ho w=>?_⟩
   simp [execOp,ho,e1,l6,dS]
  obtain⟨rfl,h2⟩:=this
  exact⟨e2,h2⟩
 | binOp op t x y yt=>
  simp only [cOp] at h
  by_cases h1:op=.eql∨op=.neq
  ·have hh:∃k x' y',OB P (tC x||tC y) t=some k∧J7 P slots done x=some x'∧J7 P slots done y=some y'∧
     ((k=.prim .i∨k=.prim .s)∧po=.ib op x' y'∨(k≠.prim .i∧k≠.prim .s)∧po=.eq (decide (op=.neq)) k x' y'):=by
    rcases h1 with rfl | rfl <;>
    ·simp only at h
     obtain⟨k,hk,h⟩:=bind_eq h
     cases k with
     | prim p=>
      cases p <;>
      ·simp only at h
       obtain⟨x',hx,h⟩:=bind_eq h
       obtain⟨y',hy,h⟩:=bind_eq h
       have:=O4 h
       exact⟨_,x',y',hk,hx,hy,by simp [this]⟩
     | _=>
      simp only at h
      obtain⟨x',hx,h⟩:=bind_eq h
      obtain⟨y',hy,h⟩:=bind_eq h
      have:=O4 h
      exact⟨_,x',y',hk,hx,hy,by simp [this]⟩
   obtain⟨k,x',y',hk,hx,hy,hh⟩:=hh
   obtain⟨e1,_⟩:=l9 s hx
   obtain⟨e2,_⟩:=l9 s hy
   rcases hh with⟨_,rfl⟩ | ⟨⟨hk1,hk2⟩,rfl⟩
   ·have hs1:op≠.shl:=by rcases h1 with rfl | rfl<;>simp
    have hs2:op≠.shr:=by rcases h1 with rfl | rfl<;>simp
    have hv:Eh (Io op) (Ip op) (trO x' ls env) (trO y' ls env)=some v:=by
     rcases h1 with rfl | rfl<;>exact hv
    refine⟨(jH (P:=P) (ι:=ι) hs1 hs2 hv t default).2,jd (fun w=>?_) (fun w=>by rw [e1,e2];exact (jH (n:=n) hs1 hs2 hv t w).1)⟩
    rw [e1,e2]
    rcases EZ hv with⟨k,p,hf⟩ | ⟨p,hf⟩<;>rw [hf]<;>exact jG (by simp [l6]) (by simp [l6])
   ·have hv:∃r,pR k (trO x' ls env) (trO y' ls env)=some r∧v=.bool (if op=.neq then !r else r):=by
     rcases h1 with rfl | rfl <;>
     ·obtain⟨r,h1,h2⟩:=r9 hv
      cases h2
      exact⟨r,h1,rfl⟩
    obtain⟨r,hr,rfl⟩:=hv
    refine⟨by simp [j3.lt],jd (fun w=>?_) (fun w=>?_)⟩
    ·rw [e1,e2]
     cases k with
     | prim p=>
      cases p with
      | b=>obtain⟨p,q,h3,h4,_⟩:=ak hr;rw [h3,h4];exact jG (by simp [l6]) (by simp [l6])
      | i=>exact absurd rfl hk1
      | s=>exact absurd rfl hk2
     | flat ks=>
      obtain⟨l,h3,h4⟩:=V7 hr
      obtain⟨m,h5,h6⟩:=V7 h4
      rw [h3,h5]
      refine zY ?_
      rcases (nI hk).symm with hk | hk
      ·obtain⟨_,_,_,_,_,_,h7,_⟩:=qO hk
       exact h7
      simp only [eqT] at hk
      split at hk<;>first | (simp at hk;done) | (split at hk<;>simp at hk;done) | skip
      ·split at hk
       ·split at hk
        ·assumption
        ·cases hk
       ·cases hk
     | iface=>
      have hc:tC x=true∨tC y=true:=by
       rcases (nI hk).symm with hk | hk
       ·obtain⟨_,_,_,_,_,_,_,h7⟩:=qO hk
        cases h7
       simp only [eqT] at hk
       split at hk<;>first | (simp at hk;done) | (split at hk<;>simp at hk;done) | (split at hk<;>first | (split at hk<;>simp at hk;done) | (simp at hk;done)) | skip
       ·split at hk
        ·rename_i hc;simpa using hc
        ·simp at hk
      exact jG (fun p q=>by cases hx:trO x' ls env<;>simp_all [pR,cB,l6]) (hc.elim (fun h=>.inr (.inr (.inl h))) (fun h=>.inr (.inr (.inr h))))
     | _=>
      refine jG (fun p q=>?_) (.inl ?_)<;>cases hx:trO x' ls env<;>simp_all [pR,vD,nA,Ev,xq,l6]
    ·rw [e1,e2]
     have:=Fe hk hk1 hk2 (ι:=ι) hr w
     rcases h1 with rfl | rfl
     ·simpa [l6] using this.1
     ·simpa [l6] using this.2
  ·have hne:op≠.eql∧op≠.neq:=⟨fun e=>h1 (.inl e),fun e=>h1 (.inr e)⟩
   have hh:∃x' y',J7 P slots done x=some x'∧J7 P slots done y=some y'∧po=.ib op x' y':=by
    cases op<;>first
     | exact absurd rfl hne.1
     | exact absurd rfl hne.2
     | (simp only at h
        obtain⟨x',hx,h⟩:=bind_eq h
        obtain⟨y',hy,h⟩:=bind_eq h
        exact⟨x',y',hx,hy,(O4 h).symm⟩)
   obtain⟨x',y',hx,hy,rfl⟩:=hh
   obtain⟨e1,_⟩:=l9 s hx
   obtain⟨e2,_⟩:=l9 s hy
   by_cases hs1:op=.shl
   ·subst hs1
    refine⟨(xK (P:=P) (ι:=ι) hv t default).2,jd (fun w=>dW (by simp) (by simp)) (fun w=>by rw [e1,e2];exact (xK (n:=n) hv t w).1)⟩
   ·by_cases hs2:op=.shr
    ·subst hs2
     refine⟨(xL (P:=P) (ι:=ι) hv t default).2,jd (fun w=>dW (by simp) (by simp)) (fun w=>by rw [e1,e2];exact (xL (n:=n) hv t w).1)⟩
    ·have hv:Eh (Io op) (Ip op) (trO x' ls env) (trO y' ls env)=some v:=by
      cases op<;>first | exact absurd rfl hs1 | exact absurd rfl hs2 | exact hv
     exact⟨(jH (P:=P) (ι:=ι) hs1 hs2 hv t default).2,jd (fun w=>dW hne.1 hne.2) (fun w=>by rw [e1,e2];exact (jH (n:=n) hs1 hs2 hv t w).1)⟩
 | unOp op t x=>
  have hh:∃x',J7 P slots done x=some x'∧(op=.not∧po=.not x'∨op=.neg∧po=.neg x'∨op=.xor∧po=.inv x'):=by
   simp only [cOp] at h
   cases op<;>simp only at h<;>first
    | (cases h;done)
    | (obtain⟨x',hx,h⟩:=bind_eq h
       exact⟨x',hx,by simp [O4 h]⟩)
  obtain⟨x',hx,hh⟩:=hh
  obtain⟨e1,_⟩:=l9 s hx
  rcases hh with⟨rfl,rfl⟩ | ⟨rfl,rfl⟩ | ⟨rfl,rfl⟩
  ·obtain⟨b,h1,h2⟩:=jF hv
   have h1:trO x' ls env=.bool b:=h1
   cases h2
   exact⟨by simp [j3.lt],fun o ho w=>by simp [execOp,ho,e1,h1,l6,Op.unary]⟩
  ·obtain⟨k,m,h1,h2⟩:=dV hv
   have h1:trO x' ls env=.int k m:=h1
   cases h2
   exact⟨by simp [j3.lt],fun o ho w=>by simp [execOp,ho,e1,h1,l6,Op.unary,Op.intArith,lM]⟩
  ·obtain⟨k,m,h1,h2⟩:=dV hv
   have h1:trO x' ls env=.int k m:=h1
   cases h2
   exact⟨by simp [j3.lt,vC],fun o ho w=>by cases hk:k.signed<;>simp [execOp,ho,e1,h1,l6,Op.unary,Op.intBits,vC,hk]⟩
 | convert src dst x=>
  simp only [cOp] at h
  obtain⟨us,hus,h⟩:=bind_eq h
  obtain⟨ud,hud,h⟩:=bind_eq h
  have hh:∃x',J7 P slots done x=some x'∧∃j k,us=.int j∧ud=.int k∧po=.conv k x':=by
   split at h
   ·obtain⟨x',hx,h⟩:=bind_eq h
    exact⟨x',hx,_,_,rfl,rfl,(O4 h).symm⟩
   ·obtain⟨ue,_,h⟩:=bind_eq h
    split at h
    ·obtain⟨x',hx,h⟩:=bind_eq h;cases h
    ·cases h
   ·obtain⟨ue,_,h⟩:=bind_eq h
    split at h
    ·obtain⟨x',hx,h⟩:=bind_eq h;cases h
    ·cases h
   ·obtain⟨_,_,h⟩:=bind_eq h
    split at h
    ·cases h
    ·obtain⟨_,_,h⟩:=bind_eq h;cases h
   ·obtain⟨_,_,h⟩:=bind_eq h
    split at h
    ·cases h
    ·obtain⟨_,_,h⟩:=bind_eq h;cases h
   ·cases h
  obtain⟨x',hx,j,k,rfl,rfl,rfl⟩:=hh
  obtain⟨e1,e2⟩:=l9 s hx
  obtain⟨k',m,h1,h2⟩:=dV hv
  have h1:trO x' ls env=.int k' m:=h1
  cases h2
  exact⟨by simp [j3.lt],fun o ho w=>by simp [execOp,ho,convert,run_underlying hus,run_underlying hud,e1,h1,l6,Conv.intToInt,lM]⟩
 | makeInterface t x=>
  simp only [cOp] at h
  obtain⟨u,hu,h⟩:=bind_eq h
  have hh:∃x',J7 P slots done x=some x'∧po=.mkIface t x'∧∀ms,u≠.interface ms:=by
   split at h
   ·cases h
   ·rename_i hne
    obtain⟨x',hx,h⟩:=bind_eq h
    exact⟨x',hx,(O4 h).symm,fun ms e=>hne ms e⟩
  obtain⟨x',hx,rfl,hne⟩:=hh
  obtain⟨e1,e2⟩:=l9 s hx
  cases hv
  refine⟨by simpa [j3.lt] using e2,fun o ho w=>?_⟩
  simp only [execOp,ho,Instr.makeInterface,Sem.run_bind,run_underlying hu,Result.andThen_ok,e1]
  cases u<;>first | exact absurd rfl (hne _) | simp [l6]
 | typeAssert x xt t ok=>
  simp only [cOp] at h
  obtain⟨u,hu,h⟩:=bind_eq h
  have hh:∃z x',zeroV P t=some z∧J7 P slots done x=some x'∧po=.assert t z ok x'∧∀ms,u≠.interface ms:=by
   split at h
   ·cases h
   ·rename_i hne
    obtain⟨z,hz,h⟩:=bind_eq h
    obtain⟨x',hx,h⟩:=bind_eq h
    exact⟨z,x',hz,hx,(O4 h).symm,fun ms e=>hne ms e⟩
  obtain⟨z,x',hz,hx,rfl,hne⟩:=hh
  obtain⟨e1,e2⟩:=l9 s hx
  have hv1:Ey t z ok (trO x' ls env)=some v:=hv
  clear hv
  generalize trO x' ls env=y at *
  cases y with
  | nilIface=>
   cases ok with
   | false=>cases hv1
   | true=>
    have hv1:some (j3.tuple [z,.bool false])=some v:=hv1
    cases hv1
    refine⟨⟨(fU (w:=default) hz ι).2 n,trivial,trivial⟩,fun o ho w=>?_⟩
    have hz1:=(fU (w:=w) hz ι).1
    simp only [execOp,ho,Instr.typeAssert,Sem.run_bind,run_underlying hu,Result.andThen_ok,e1,l6]
    cases u<;>first | exact absurd rfl (hne _) | simp [hz1,l8,l6]
  | iface t' y=>
   have hv1:bi (Nat.beq t' t) (some (bi ok (.tuple [y,.bool true]) y)) (bi ok (some (.tuple [z,.bool false])) none)=some v:=hv1
   cases hb:Nat.beq t' t with
   | true=>
    have he:=Nat.eq_of_beq_eq_true hb
    rw [hb] at hv1
    have hv1:some (bi ok (.tuple [y,.bool true]) y)=some v:=hv1
    cases ok with
    | false=>
     have hv1:some y=some v:=hv1
     cases hv1
     refine⟨e2,fun o ho w=>?_⟩
     simp only [execOp,ho,Instr.typeAssert,Sem.run_bind,run_underlying hu,Result.andThen_ok,e1,l6]
     cases u<;>first | exact absurd rfl (hne _) | simp [he]
    | true=>
     have hv1:some (j3.tuple [y,.bool true])=some v:=hv1
     cases hv1
     refine⟨⟨e2,trivial,trivial⟩,fun o ho w=>?_⟩
     simp only [execOp,ho,Instr.typeAssert,Sem.run_bind,run_underlying hu,Result.andThen_ok,e1,l6]
     cases u<;>first | exact absurd rfl (hne _) | simp [he,l8,l6]
   | false=>
    have he:t'≠t:=Nat.ne_of_beq_eq_false hb
    rw [hb] at hv1
    cases ok with
    | false=>cases hv1
    | true=>
     have hv1:some (j3.tuple [z,.bool false])=some v:=hv1
     cases hv1
     refine⟨⟨(fU (w:=default) hz ι).2 n,trivial,trivial⟩,fun o ho w=>?_⟩
     have hz1:=(fU (w:=w) hz ι).1
     simp only [execOp,ho,Instr.typeAssert,Sem.run_bind,run_underlying hu,Result.andThen_ok,e1,l6]
     cases u<;>first | exact absurd rfl (hne _) | simp [hz1,he,l8,l6]
  | _=>cases hv1
 | makeFunc fn f c=>
  simp only [cOp] at h
  have hh:∃g f' c',fn=.func g∧fT P slots done f.toList=some f'∧fT P slots done c.toList=some c'∧po=.mkFunc (.func g) f' c':=by
   split at h
   ·obtain⟨f',hf,h⟩:=bind_eq h
    obtain⟨c',hc,h⟩:=bind_eq h
    exact⟨_,f',c',rfl,hf,hc,(O4 h).symm⟩
   ·cases h
  obtain⟨g,f',c',rfl,hf,hc,rfl⟩:=hh
  cases hv
  obtain⟨e1,e2⟩:=dJ s hf
  obtain⟨e3,e4⟩:=dJ s hc
  refine⟨⟨trivial,e2,e4⟩,fun o ho w=>?_⟩
  have q1:f.map a.eval=(l8 ι (evs (iE f') ls env)).toArray:=by apply Array.toList_inj.1;rw [Array.toList_map];exact e1
  have q2:c.map a.eval=(l8 ι (evs (iE c') ls env)).toArray:=by apply Array.toList_inj.1;rw [Array.toList_map];exact e3
  simp [execOp,ho,Instr.makeFunc,q1,q2,l6,dS]
 | slice t x lo hi mx=>
  simp only [cOp] at h
  cases mx with
  | some _=>simp at h
  | none=>
  simp only at h
  obtain⟨u,hu,h⟩:=bind_eq h
  split at h
  ·obtain⟨x',hx,h⟩:=bind_eq h
   obtain⟨lo',hlo,h⟩:=bind_eq h
   obtain⟨hi',hhi,h⟩:=bind_eq h
   obtain rfl:=O4 h
   obtain⟨e1,e2⟩:=l9 s hx
   obtain⟨str,h1,h2⟩:=aZ hv
   have h1:trO x' ls env=.str str:=h1
   obtain⟨l,h,h3,_,_,h4⟩:=je s hlo hhi h2
   obtain⟨g1,h3⟩:=p9 h3
   obtain⟨g2,h3⟩:=p9 h3
   obtain⟨r,h5,h6⟩:=r9 h3
   cases h6
   have g1:=Nat.le_of_ble_eq_true g1
   have g2:=Nat.le_of_ble_eq_true g2
   simp only [C8,aJ] at *
   obtain⟨rfl,_⟩:=dH _ _ _ h5
   refine⟨by simp [j3.lt],fun o ho w=>?_⟩
   simp only [execOp,ho,Instr.sliceAt,Sem.run_bind,run_underlying hu,Result.andThen_ok,Instr.slice,e1,h1,l6]
   simp only [Option.map_none,Option.isSome_none,Bool.false_eq_true,if_false,Sem.run_bind,gJ,Sem.run_pure,Result.andThen_ok]
   rw [h4 false str.length str.length w rfl g1 g2]
   simp only [Result.andThen_ok,Sem.run_pure]
   congr 3
   apply ByteArray.ext
   simp [ByteArray.data_extract,List.extract_eq_take_drop]
  ·obtain⟨es,_,h⟩:=bind_eq h
   obtain⟨x',hx,h⟩:=bind_eq h
   obtain⟨lo',hlo,h⟩:=bind_eq h
   obtain⟨hi',hhi,h⟩:=bind_eq h
   cases h
  ·rename_i n' e'
   obtain⟨es,hes,h⟩:=bind_eq h
   obtain⟨x',hx,h⟩:=bind_eq h
   obtain⟨lo',hlo,h⟩:=bind_eq h
   obtain⟨hi',hhi,h⟩:=bind_eq h
   obtain rfl:=O4 h
   obtain⟨e1,e2⟩:=l9 s hx
   obtain⟨i,o,h1,h2⟩:=V6 hv
   have h1:trO x' ls env=.ptr i o:=h1
   rw [h1] at e1 e2
   obtain⟨l,h,h3,_,_,h4⟩:=je s hlo hhi h2
   obtain⟨g1,h3⟩:=p9 h3
   obtain⟨g2,h3⟩:=p9 h3
   cases h3
   have g1:=Nat.le_of_ble_eq_true g1
   have g2:=Nat.le_of_ble_eq_true g2
   refine⟨e2,fun op ho w=>?_⟩
   simp only [execOp,ho,Instr.sliceAt,Sem.run_bind,run_underlying hu,Result.andThen_ok,e1,l6,Instr.sureAddr,Sem.run_pure,Option.map_none]
   rw [h4 false _ _ w rfl g1 g2]
   simp only [Result.andThen_ok,Sem.run_bind,run_sizeOf hes,Sem.run_pure]
   rw [oL,Inj.iZ]
   by_cases hl:n'=l
   ·rw [if_pos hl,if_pos hl.symm];rfl
   ·rw [if_neg hl,if_neg (fun e=>hl e.symm)];rfl
  ·cases h
 | fieldAddr t x f=>
  simp only [cOp] at h
  obtain⟨u,hu,h⟩:=bind_eq h
  have hh:∃fs fd x' sz,u=.struct fs∧fs[f]?=some fd∧aS P fd.type=some sz∧sz≠0∧J7 P slots done x=some x'∧po=.fAddr fd.offset x':=by
   split at h
   ·obtain⟨fd,hf,h⟩:=bind_eq h
    obtain⟨sz,hsz,h⟩:=bind_eq h
    split at h
    ·cases h
    ·obtain⟨x',hx,h⟩:=bind_eq h
     exact⟨_,fd,x',sz,rfl,hf,hsz,by assumption,hx,(O4 h).symm⟩
   ·cases h
  obtain⟨fs,fd,x',sz,rfl,hf,hsz,hne,hx,rfl⟩:=hh
  obtain⟨e1,e2⟩:=l9 s hx
  obtain⟨i,o,h1,h2⟩:=V6 hv
  have h1:trO x' ls env=.ptr i o:=h1
  cases h2
  rw [h1] at e1 e2
  refine⟨e2,fun op ho w=>?_⟩
  simp only [execOp,ho,Instr.fieldAt,Sem.run_bind,run_underlying hu,Result.andThen_ok,hf,e1,l6,Instr.sureAddr,Sem.run_pure,fieldPlace,run_sizeOf hsz,if_neg hne,Inj.iZ]
  rfl
 | field t x f=>
  simp only [cOp] at h
  obtain⟨u,hu,h⟩:=bind_eq h
  have hh:∃fs fd x' sz,u=.struct fs∧fs[f]?=some fd∧partT P fd.type=some sz∧J7 P slots done x=some x'∧po=.fld fd.offset sz x':=by
   split at h
   ·obtain⟨fd,hf,h⟩:=bind_eq h
    obtain⟨sz,hsz,h⟩:=bind_eq h
    obtain⟨x',hx,h⟩:=bind_eq h
    exact⟨_,fd,x',sz,rfl,hf,hsz,hx,(O4 h).symm⟩
   ·cases h
  obtain⟨fs,fd,x',sz,rfl,hf,hsz,hx,rfl⟩:=hh
  obtain⟨e1,e2⟩:=l9 s hx
  have hv':∃l,trO x' ls env=.agg l∧vQ sz l fd.offset=some v:=by
   cases sz with
   | none=>obtain⟨l,h1,h2⟩:=V7 hv;exact⟨l,h1,by simpa [vQ] using h2⟩
   | some k=>obtain⟨l,h1,h2⟩:=V7 hv;exact⟨l,h1,by simpa [vQ] using h2⟩
  obtain⟨l,h1,h2⟩:=hv'
  rw [h1] at e1 e2
  obtain⟨g1,g2⟩:=um (ι:=ι) hsz (show ltL n l from e2) fd.offset h2
  refine⟨g1,fun op ho w=>?_⟩
  simp [execOp,ho,Instr.field,run_underlying hu,hf,e1,l6,asAgg,g2]
 | indexAddr t x i=>
  simp only [cOp] at h
  obtain⟨u,hu,h⟩:=bind_eq h
  split at h
  ·obtain⟨es,hes,h⟩:=bind_eq h
   obtain⟨x',hx,h⟩:=bind_eq h
   obtain⟨i',hi,h⟩:=bind_eq h
   obtain rfl:=O4 h
   obtain⟨e1,e2⟩:=l9 s hx
   obtain⟨e3,_⟩:=l9 s hi
   rcases lN hv with⟨_,h2⟩ | ⟨id,off,len,cap,h1,h2⟩ | ⟨id,off,len,es',h1,h2⟩
   ·cases h2
   ·obtain⟨k,m,h3,hlt,h4⟩:=idx_eq h2
    cases h4
    have h1:trO x' ls env=.slice id off len cap:=h1
    have h3:trO i' ls env=.int k (m:Int):=h3
    rw [h1] at e1 e2
    refine⟨e2,fun op ho w=>?_⟩
    simp only [execOp,ho,Sem.run_bind,e1,e3,h3,l6,lS hu hes _ _ _ _ _ hlt,Inj.iZ,Result.andThen_ok,Sem.run_pure]
    rfl
   ·obtain⟨k,m,h3,hlt,h4⟩:=idx_eq h2
    cases h4
    have h1:trO x' ls env=.sliceU id off len es':=h1
    have h3:trO i' ls env=.int k (m:Int):=h3
    rw [h1] at e1 e2
    refine⟨e2.1,fun op ho w=>?_⟩
    simp only [execOp,ho,Sem.run_bind,e1,e3,h3,l6,lS hu hes _ _ _ _ _ hlt,Inj.iZ,Result.andThen_ok,Sem.run_pure]
    rfl
  ·obtain⟨es,hes,h⟩:=bind_eq h
   obtain⟨x',hx,h⟩:=bind_eq h
   obtain⟨i',hi,h⟩:=bind_eq h
   obtain rfl:=O4 h
   obtain⟨e1,e2⟩:=l9 s hx
   obtain⟨e3,_⟩:=l9 s hi
   obtain⟨id,off,h1,h2⟩:=V6 hv
   obtain⟨k,m,h3,hlt,h4⟩:=idx_eq h2
   cases h4
   have h1:trO x' ls env=.ptr id off:=h1
   have h3:trO i' ls env=.int k (m:Int):=h3
   rw [h1] at e1 e2
   refine⟨e2,fun op ho w=>?_⟩
   simp only [execOp,ho,Sem.run_bind,e1,e3,h3,l6,vR hu hes _ _ _ hlt,Inj.iZ,Result.andThen_ok,Sem.run_pure]
   rfl
  ·cases h
 | index t x i=>
  simp only [cOp] at h
  obtain⟨u,hu,h⟩:=bind_eq h
  split at h
  ·obtain⟨x',hx,h⟩:=bind_eq h
   obtain⟨i',hi,h⟩:=bind_eq h
   obtain rfl:=O4 h
   obtain⟨e1,e2⟩:=l9 s hx
   obtain⟨e3,_⟩:=l9 s hi
   obtain⟨str,h1,h2⟩:=aZ hv
   obtain⟨k,m,h3,h4⟩:=aj h2
   obtain⟨b,h5,h6⟩:=r9 h4
   cases h6
   have h1:trO x' ls env=.str str:=h1
   have h3:trO i' ls env=.int k (m:Int):=h3
   rw [cZ] at h5
   refine⟨by simp [j3.lt],fun op ho w=>?_⟩
   obtain⟨hlt,hb⟩:=List.getElem?_eq_some_iff.1 h5
   have hidx:(⟨str.toArray⟩:ByteArray)[m]?=some b:=by
    rw [ByteArray.getElem?_lt' _ _ (by rw [gJ];exact hlt)]
    congr 1
   simp only [execOp,ho,Instr.index,Sem.run_bind,run_underlying hu,e1,h1,e3,h3,l6,asIntOf,Sem.run_pure,Result.andThen_ok]
   rw [if_pos (Int.natCast_nonneg m),Int.toNat_natCast,hidx]
   rfl
  ·rename_i len elem
   obtain⟨es,hes,h⟩:=bind_eq h
   obtain⟨sz,hsz,h⟩:=bind_eq h
   obtain⟨x',hx,h⟩:=bind_eq h
   obtain⟨i',hi,h⟩:=bind_eq h
   obtain rfl:=O4 h
   obtain⟨e1,e2⟩:=l9 s hx
   obtain⟨e3,_⟩:=l9 s hi
   have hv':∃l k,∃m:Nat,trO x' ls env=.agg l∧trO i' ls env=.int k (m:Int)∧m<len∧vQ sz l (m*es)=some v:=by
    cases sz with
    | none=>
     obtain⟨l,h1,h2⟩:=V7 hv
     obtain⟨k,m,h3,hlt,h4⟩:=idx_eq h2
     exact⟨l,k,m,h1,h3,hlt,by simpa [vQ] using h4⟩
    | some k=>
     obtain⟨l,h1,h2⟩:=V7 hv
     obtain⟨k',m,h3,hlt,h4⟩:=idx_eq h2
     exact⟨l,k',m,h1,h3,hlt,by simpa [vQ] using h4⟩
   obtain⟨l,k,m,h1,h3,hlt,h2⟩:=hv'
   rw [h1] at e1 e2
   obtain⟨g1,g2⟩:=um (ι:=ι) hsz (show ltL n l from e2) (m*es) h2
   refine⟨g1,fun op ho w=>?_⟩
   simp [execOp,ho,Instr.index,run_underlying hu,run_sizeOf hes,e1,e3,h3,l6,asIntOf,hlt,g2]
  ·cases h
 | extract x i=>
  simp only [cOp] at h
  obtain⟨x',hx,h⟩:=bind_eq h
  obtain rfl:=O4 h
  obtain⟨e1,e2⟩:=l9 s hx
  obtain⟨l,h1,h2⟩:=Lb hv
  have h1:trO x' ls env=.tuple l:=h1
  rw [cZ] at h2
  rw [h1] at e1 e2
  refine⟨E8 (show ltL n l from e2) (List.mem_of_getElem? h2),fun op ho w=>?_⟩
  simp [execOp,ho,Instr.extract,e1,l6,K7,h2]
 | call c=>
  obtain⟨callee,args,ts⟩:=c
  simp only [cOp] at h
  cases callee with
  | invoke _ _=>cases h
  | value f=>
   cases f with
   | func f=>
    obtain⟨fn,hfn,h⟩:=bind_eq h
    split at h
    ·obtain⟨os,_,h⟩:=bind_eq h;cases h
    ·split at h
     ·rename_i hcnd
      obtain⟨args⟩:=args
      simp only [Bool.and_eq_true,beq_iff_eq] at hcnd
      match args,h with
      | [x],h=>
       obtain⟨x',hx,h⟩:=bind_eq h
       obtain rfl:=O4 h
       cases hv
       obtain⟨e1,e2⟩:=l9 s hx
       refine⟨e2,fun o ho w=>?_⟩
       have:=Fg hfn hcnd.1.1 hcnd.1.2 hcnd.2 (l6 ι (trO x' ls env)) w
       have hf:a.eval (.func f)=.func (.func f) #[] #[]:=rfl
       simp [execOp,ho,resolve,invoke,hf,Deferred.ofValue,this,e1]
      | [],h=>cases h
      | _ :: _ :: _,h=>cases h
     ·cases h
   | _=>
    obtain⟨x',_,h⟩:=bind_eq h
    obtain⟨os,_,h⟩:=bind_eq h;cases h
  | builtin b=>
   obtain⟨args⟩:=args
   obtain⟨ts⟩:=ts
   simp only [lu] at h
   split at h
   ·
    rename_i t x
    obtain⟨u,hu,h⟩:=bind_eq h
    have hh:∃x',(J7 P slots done x=some x'∧u=.string∧po=.lenS x')∨(J7 P slots done x=some x'∧(∃e,u=.slice e)∧po=.len x')∨∃k e,u=.array k e∧po=.mov (.con (.int .i64 k)):=by
     split at h
     ·obtain⟨x',hx,h⟩:=bind_eq h;exact⟨x',.inl ⟨hx,rfl,(O4 h).symm⟩⟩
     ·obtain⟨x',hx,h⟩:=bind_eq h;exact⟨x',.inr (.inl ⟨hx,⟨_,rfl⟩,(O4 h).symm⟩)⟩
     ·exact⟨default,.inr (.inr ⟨_,_,rfl,(O4 h).symm⟩)⟩
     ·obtain⟨x',hx,h⟩:=bind_eq h;cases h
     ·cases h
    obtain⟨x',⟨hx,rfl,rfl⟩ | ⟨hx,⟨e,rfl⟩,rfl⟩ | ⟨k,e,rfl,rfl⟩⟩:=hh
    ·obtain⟨e1,_⟩:=l9 s hx
     obtain⟨str,h1,h2⟩:=aZ hv
     have h1:trO x' ls env=.str str:=h1
     cases h2
     exact⟨by simp [j3.lt],fun o ho w=>by simp [execOp,ho,resolve,invoke,builtin,Builtin.len_,run_underlying hu,e1,h1,l6,goInt,gJ]⟩
    ·obtain⟨e1,_⟩:=l9 s hx
     rcases lN hv with⟨h1,h2⟩ | ⟨id,off,len,cap,h1,h2⟩ | ⟨id,off,len,cap,h1,h2⟩
     ·have h1:trO x' ls env=.nilSlice:=h1
      cases h2
      exact⟨by simp [j3.lt],fun o ho w=>by simp [execOp,ho,resolve,invoke,builtin,Builtin.len_,run_underlying hu,e1,h1,l6,goInt]⟩
     ·have h1:trO x' ls env=.slice id off len cap:=h1
      cases h2
      exact⟨by simp [j3.lt],fun o ho w=>by simp [execOp,ho,resolve,invoke,builtin,Builtin.len_,run_underlying hu,e1,h1,l6,goInt]⟩
     ·have h1:trO x' ls env=.sliceU id off len cap:=h1
      cases h2
      exact⟨by simp [j3.lt],fun o ho w=>by simp [execOp,ho,resolve,invoke,builtin,Builtin.len_,run_underlying hu,e1,h1,l6,goInt]⟩
    ·cases hv
     refine⟨by simp [trO,x9,j3.lt],fun o ho w=>?_⟩
     simp [execOp,ho,resolve,invoke,builtin,Builtin.len_,run_underlying hu,trO,x9,l6,goInt]
   ·
    rename_i t x
    obtain⟨u,hu,h⟩:=bind_eq h
    split at h
    ·obtain⟨x',hx,h⟩:=bind_eq h
     obtain rfl:=O4 h
     obtain⟨e1,_⟩:=l9 s hx
     rcases lN hv with⟨h1,h2⟩ | ⟨id,off,len,cap,h1,h2⟩ | ⟨_,_,_,_,_,h2⟩
     ·have h1:trO x' ls env=.nilSlice:=h1
      cases h2
      exact⟨by simp [j3.lt],fun o ho w=>by simp [execOp,ho,resolve,invoke,builtin,Builtin.cap_,run_underlying hu,e1,h1,l6,goInt]⟩
     ·have h1:trO x' ls env=.slice id off len cap:=h1
      cases h2
      exact⟨by simp [j3.lt],fun o ho w=>by simp [execOp,ho,resolve,invoke,builtin,Builtin.cap_,run_underlying hu,e1,h1,l6,goInt]⟩
     ·cases h2
    ·cases h
   ·obtain⟨u,hu,h⟩:=bind_eq h
    split at h
    ·obtain⟨_,_,h⟩:=bind_eq h
     split at h
     all_goals (repeat' (first | (cases h;done) | (obtain⟨_,_,h⟩:=bind_eq h)))
    ·cases h
   ·obtain⟨u,hu,h⟩:=bind_eq h
    split at h
    ·obtain⟨_,_,h⟩:=bind_eq h
     obtain⟨_,_,h⟩:=bind_eq h
     obtain⟨_,_,h⟩:=bind_eq h;cases h
    ·cases h
   ·obtain⟨u,hu,h⟩:=bind_eq h
    split at h
    ·obtain⟨_,_,h⟩:=bind_eq h
     obtain⟨_,_,h⟩:=bind_eq h;cases h
    ·cases h
   ·
    rename_i x xs
    obtain⟨x',hx,h⟩:=bind_eq h
    obtain⟨xs',hxs,h⟩:=bind_eq h
    obtain rfl:=O4 h
    obtain⟨e1,e2⟩:=l9 s hx
    obtain⟨e3,e4⟩:=dJ s hxs
    obtain⟨g1,g2⟩:=BI (P:=P) (ι:=ι) true _ _ v e4 e2 hv
    refine⟨g1,fun o ho w=>?_⟩
    have:=g2 w
    simp only [if_true] at this
    simp [execOp,ho,resolve,invoke,builtin,Builtin.max_,e1,e3,this]
   ·rename_i x xs
    obtain⟨x',hx,h⟩:=bind_eq h
    obtain⟨xs',hxs,h⟩:=bind_eq h
    obtain rfl:=O4 h
    obtain⟨e1,e2⟩:=l9 s hx
    obtain⟨e3,e4⟩:=dJ s hxs
    obtain⟨g1,g2⟩:=BI (P:=P) (ι:=ι) false _ _ v e4 e2 hv
    refine⟨g1,fun o ho w=>?_⟩
    have:=g2 w
    simp only [Bool.false_eq_true,if_false] at this
    simp [execOp,ho,resolve,invoke,builtin,Builtin.min_,e1,e3,this]
   ·cases h
   ·obtain⟨u,hu,h⟩:=bind_eq h
    split at h
    ·obtain⟨x',hx,h⟩:=bind_eq h;cases h
    ·cases h
   ·obtain⟨u,hu,h⟩:=bind_eq h
    repeat' (first | (cases h;done) | (obtain⟨_,_,h⟩:=bind_eq h) | split at h)
   ·cases h
 | alloc t=>
  simp only [cOp] at h
  split at h
  all_goals (obtain⟨_,_,h⟩:=bind_eq h;cases h)
 | box t x=>
  simp only [cOp] at h
  split at h
  ·obtain⟨_,_,h⟩:=bind_eq h;obtain⟨_,_,h⟩:=bind_eq h;cases h
  ·obtain⟨_,_,h⟩:=bind_eq h;cases h
 | buildSlice t len parts=>
  simp only [cOp] at h
  obtain⟨_,_,h⟩:=bind_eq h
  split at h
  ·obtain⟨_,_,h⟩:=bind_eq h
   obtain⟨_,_,h⟩:=bind_eq h
   split at h
   ·obtain⟨_,_,h⟩:=bind_eq h;cases h
   ·cases h
  ·cases h
 | insert t m k x=>
  simp only [cOp] at h
  obtain⟨_,_,h⟩:=bind_eq h
  split at h
  ·obtain⟨_,_,h⟩:=bind_eq h
   obtain⟨_,_,h⟩:=bind_eq h
   obtain⟨_,_,h⟩:=bind_eq h
   obtain⟨_,_,h⟩:=bind_eq h;cases h
  ·cases h
 | mapUpdate t m k x=>
  simp only [cOp] at h
  obtain⟨_,_,h⟩:=bind_eq h
  split at h
  ·obtain⟨_,_,h⟩:=bind_eq h
   obtain⟨_,_,h⟩:=bind_eq h
   obtain⟨_,_,h⟩:=bind_eq h
   obtain⟨_,_,h⟩:=bind_eq h;cases h
  ·cases h
 | load t x=>simp only [cOp] at h;obtain⟨_,_,h⟩:=bind_eq h;obtain⟨_,_,h⟩:=bind_eq h;cases h
 | store t x y=>simp only [cOp] at h;obtain⟨_,_,h⟩:=bind_eq h;obtain⟨_,_,h⟩:=bind_eq h;obtain⟨_,_,h⟩:=bind_eq h;cases h
 | makeMap t r=>
  simp only [cOp] at h
  repeat' (first | (cases h;done) | split at h)
 | makeSlice t l c=>
  simp only [cOp] at h
  obtain⟨_,_,h⟩:=bind_eq h
  split at h
  ·obtain⟨_,_,h⟩:=bind_eq h
   obtain⟨_,_,h⟩:=bind_eq h
   obtain⟨_,_,h⟩:=bind_eq h
   obtain⟨_,_,h⟩:=bind_eq h
   obtain⟨_,_,h⟩:=bind_eq h;cases h
  ·cases h
 | lookup t x k ok=>
  simp only [cOp] at h
  obtain⟨_,_,h⟩:=bind_eq h
  split at h
  ·obtain⟨_,_,h⟩:=bind_eq h
   obtain⟨_,_,h⟩:=bind_eq h
   obtain⟨_,_,h⟩:=bind_eq h
   obtain⟨_,_,h⟩:=bind_eq h;cases h
  ·cases h
 | range t x=>
  simp only [cOp] at h
  obtain⟨_,_,h⟩:=bind_eq h
  split at h
  ·obtain⟨_,_,h⟩:=bind_eq h;cases h
  ·obtain⟨_,_,h⟩:=bind_eq h;cases h
  ·cases h
 | next it is=>
  cases is
  ·simp only [cOp] at h;obtain⟨_,_,h⟩:=bind_eq h;cases h
  ·simp only [cOp] at h;obtain⟨_,_,h⟩:=bind_eq h;cases h
 | entry it=>simp only [cOp] at h;obtain⟨_,_,h⟩:=bind_eq h;cases h
 | panic x=>simp only [cOp] at h;obtain⟨_,_,h⟩:=bind_eq h;cases h
 | defer c=>
  simp only [cOp] at h
  split at h
  ·obtain⟨_,_,h⟩:=bind_eq h
   obtain⟨_,_,h⟩:=bind_eq h;cases h
  ·cases h
 | _=>simp only [cOp] at h;cases h
end
end
end Go.AM
