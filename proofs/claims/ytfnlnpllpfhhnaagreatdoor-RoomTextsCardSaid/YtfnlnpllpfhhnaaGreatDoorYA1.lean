/- A part of an evaluator for the model, proved sound: what it answers holds of the model; it speaks of every program, no condition. -/
import GoSem.Core.Code
import GoSem.Core.Program
import GoSem.Core.View
import GoSem.Core.World
import GoSem.Core.Region
import GoSem.Core.Layout
import GoSem.Op.Equal
import Derived.CallsIn
import Derived.Laws.Sem
import GoSem.Dispatch
import Derived.Laws.Strings
set_option linter.unusedSimpArgs false
set_option linter.unusedVariables false
namespace Go.AM
open Go
abbrev D5:=@Nat.le_refl
abbrev S9:=@List.getElem?_eq_some_iff
abbrev U0:=@Option.some.injEq
abbrev U1:=@List.getElem?_eq_getElem
abbrev W9:=@List.mem_singleton
abbrev avs:=@Result.andThen_ok
abbrev avt:=@Nat.eq_of_beq_eq_true
abbrev avu:=@Nat.lt_of_lt_of_le
abbrev avv:=@Bool.and_eq_true
abbrev avw:=@Nat.add_assoc
abbrev avx:=@Array.getElem?_eq_some_iff
abbrev avy:=@Sem.run_bind
abbrev avz:=@Nat.le_trans
abbrev avA:=@Option.some.inj
abbrev avB:=@Nat.ble_eq_true_of_le
abbrev avC:=@Nat.le_of_ble_eq_true
abbrev avD:=@List.drop_of_length_le
abbrev avE:=@Array.getD_eq_getD_getElem?
abbrev avF:=@List.getD_eq_getElem?_getD
abbrev avG:=@List.mem_of_getElem?
abbrev avH:=@Array.getElem?_setIfInBounds_ne
abbrev avI:=@Array.getElem?_setIfInBounds_self_of_lt
abbrev avJ:=@List.drop_eq_getElem_cons
abbrev avK:=@Option.bind_some
abbrev avL:=@List.mem_cons
abbrev avM:=@Nat.blt_eq
abbrev avN:=@List.mem_append
abbrev avO:=@Bool.eq_false_iff
abbrev avP:=@Sem.run_pure
abbrev avQ:=@List.take_of_length_le
abbrev avR:=@Nat.mul_le_mul_right
abbrev avS:=@Nat.zero_add
abbrev avT:=@List.nil_append
abbrev avU:=@List.getElem?_of_mem
abbrev avV:=@Bool.eq_iff_iff
abbrev avW:=@List.length_eq_zero_iff
abbrev avX:=@Array.getElem?_eq_getElem
abbrev avY:=@List.getElem?_append_left
abbrev avZ:=@Nat.mod_two_eq_zero_or_one
abbrev awc:=@List.mem_cons_of_mem
abbrev awd:=@List.take_succ_eq_append_getElem
abbrev awe:=@List.getElem?_map
abbrev awf:=@Array.toArray_toList
abbrev awg:=@Bool.false_eq_true
abbrev awh:=@List.drop_zero
abbrev awi:=@List.all_eq_true
abbrev awj:=@List.getElem_mem
abbrev awk:=@List.length_append
abbrev awl:=@Nat.add_zero
abbrev awm:=@List.getElem?_append_right
abbrev awn:=@Option.map_some
abbrev awo:=@List.append_nil
abbrev awp:=@List.length_cons
abbrev awq:=@Nat.succ_mul
abbrev awr:=@Nat.mod_lt
abbrev aws:=@List.length_pos_iff
abbrev awt:=@Nat.mul_one
abbrev awu:=@List.mem_of_mem_take
abbrev awv:=@List.getElem?_cons_succ
abbrev aww:=@List.getElem?_inj
abbrev awx:=@Nat.mul_comm
abbrev awy:=@List.mem_map
abbrev awz:=@Nat.mod_eq_of_lt
abbrev awC:=@List.getElem?_toArray
abbrev awD:=@List.mem_range
abbrev awE:=@List.mem_append_left
abbrev awF:=@Nat.zero_mul
abbrev awG:=@List.cons_append
abbrev awH:=@List.length_take
abbrev awI:=@Option.map_eq_some_iff
abbrev awJ:=@List.getElem?_take
abbrev awK:=@Array.ext_getElem?
abbrev awL:=@Nat.lt_or_ge
abbrev awM:=@List.getElem?_eq_none
abbrev awN:=@List.map_append
abbrev awO:=@Bool.or_eq_true
abbrev awP:=@List.mem_append_right
abbrev awQ:=@Bool.true_and
abbrev awR:=@List.size_toArray
abbrev awS:=@Nat.add_mul
abbrev awT:=@List.length_drop
abbrev awU:=@Nat.beq_refl
abbrev awV:=@List.not_mem_nil
abbrev awW:=@Option.bind_eq_some_iff
abbrev awX:=@Nat.lt_irrefl
abbrev awY:=@List.mem_filter
abbrev awZ:=@Array.getElem?_eq_none
abbrev aw0:=@Nat.le_div_iff_mul_le
abbrev aw1:=@Nat.pow_succ
abbrev aw2:=@Nat.le_of_not_lt
abbrev aw3:=@Nat.pow_le_pow_right
abbrev aw4:=@List.mem_of_mem_drop
abbrev aw5:=@Bool.false_or
abbrev aw6:=@List.extract_eq_take_drop
abbrev aw7:=@Nat.div_add_mod
abbrev aw8:=@List.length_nil
abbrev aw9:=@List.getElem?_zip_eq_some
abbrev axa:=@Option.map_none
abbrev axb:=@Nat.lt_of_lt_of_eq
abbrev axc:=@Array.getElem?_replicate
abbrev axd:=@Nat.mul_div_cancel
abbrev axe:=@Nat.gcd_zero_right
abbrev axf:=@Nat.gcd_comm
abbrev axg:=@List.drop_drop
abbrev axh:=@List.take_zero
abbrev axi:=@UInt8.toNat_lt
abbrev axj:=@Int.negSucc_eq
abbrev axk:=@List.filter_cons_of_pos
abbrev axl:=@List.filter_cons_of_neg
abbrev axm:=@Nat.lt_trichotomy
abbrev axn:=@Nat.gcd_rec
abbrev axo:=@Array.setIfInBounds_eq_of_size_le
abbrev axp:=@Nat.zero_le
abbrev axq:=@Array.getElem?_push_lt
abbrev axr:=@List.filter_eq_nil_iff
abbrev axt:=@List.map_cons
abbrev axu:=@Ne.symm
abbrev axv:=@UInt8.toNat_inj
abbrev axw:=@List.nodup_cons
abbrev axx:=@Nat.le_of_lt
abbrev axy:=@Bool.or_eq_false_iff
abbrev axz:=@List.length_map
abbrev axA:=@Nat.min_eq_left
abbrev axB:=@List.range_eq_range'
abbrev axC:=@List.forIn_cons
abbrev axD:=@List.eq_nil_of_length_eq_zero
abbrev axE:=@Nat.mul_le_mul_left
abbrev axF:=@List.filter_eq_self
abbrev axG:=@Nat.add_sub_cancel
abbrev axH:=@List.getElem?_drop
abbrev axI:=@Array.forIn_toList
abbrev axJ:=@Nat.pos_of_ne_zero
abbrev axK:=@List.mem_cons_self
abbrev axL:=@Nat.one_le_div_iff
abbrev axM:=@Bool.not_true
abbrev axN:=@Array.getElem?_append_left
abbrev axO:=@List.cons.inj
abbrev axP:=@Int.tdiv_eq_ediv_of_nonneg
abbrev axQ:=@List.length_range
abbrev axR:=@Int.toNat_natCast
abbrev axS:=@Nat.le_succ_of_le
abbrev axT:=@List.exists_mem_of_ne_nil
abbrev axU:=@Calls.mono
abbrev axV:=@Array.mapM_eq_mapM_toList
abbrev axW:=@Nat.min_eq_right
abbrev axX:=@Array.toList_map
abbrev axY:=@List.mem_reverse
abbrev axZ:=@Nat.div_eq_of_lt
abbrev ax0:=@Array.toList_inj
abbrev ax1:=@List.getElem_append_left
abbrev ax2:=@List.getElem?_cons_zero
abbrev ax3:=@Nat.add_sub_cancel_left
abbrev ax4:=@List.foldl_cons
abbrev ax5:=@Nat.min_le_left
abbrev ax6:=@Nat.mul_add_mod
abbrev aya:=@List.mapM_cons
abbrev ayd:=@List.map_drop
abbrev aye:=@List.map_take
end Go.AM
namespace Go.AM
open Go
noncomputable section
inductive T (α:Type) where
 | e:T α
 | nd:T α→α→T α→T α
inductive j5 where
 | undef
 | bool (b:Bool)
 | int (k:IntKind) (n:Int)
 | str (s:List UInt8)
 | nilPtr
 | ptr (id off:Nat)
 | nilSlice
 | slice (id off len cap:Nat)
 | sliceU (id off len es:Nat)
 | nilMap
 | map (id:Nat)
 | nilFunc
 | func (fn:Fn) (first captured:List j5)
 | nilIface
 | iface (t:TypeId) (v:j5)
 | agg (l:List j5)
 | tuple (l:List j5)
 | pan (v:j5)
 deriving Inhabited
def j5.cells:j5→List j5
 | .agg l=>l
 | v=>[v]
inductive Opd where
 | loc (k:Nat)
 | slot (j:Nat)
 | con (v:j5)
 deriving Inhabited
inductive PK where
 | i | b | s
 deriving Inhabited,DecidableEq
inductive EqK where
 | prim (k:PK) | flat (ks:List PK) | ptr | slice | map | func | iface
 deriving Inhabited,DecidableEq
inductive POp where
 | mov (x:Opd)
 | pick (c a b:Opd)
 | build (zero:List j5) (parts:List (Nat×Nat×Opd))
 | nilCheck (x:Opd)
 | ib (op:BinOp) (x y:Opd)
 | eq (neg:Bool) (k:EqK) (x y:Opd)
 | not (x:Opd)
 | neg (x:Opd)
 | conv (k:IntKind) (x:Opd)
 | mkIface (t:TypeId) (x:Opd)
 | mkFunc (fn:Fn) (first captured:List Opd)
 | slStr (x:Opd) (lo hi:Option Opd)
 | slArr (es n:Nat) (x:Opd) (lo hi:Option Opd)
 | fAddr (off:Nat) (x:Opd)
 | fld (off:Nat) (size:Option Nat) (x:Opd)
 | iAddr (es:Nat) (x i:Opd)
 | iAddrArr (es n:Nat) (x i:Opd)
 | iArr (es n:Nat) (size:Option Nat) (x i:Opd)
 | iStr (x i:Opd)
 | ext (x:Opd) (i:Nat)
 | len (x:Opd)
 | lenS (x:Opd)
 | cap (x:Opd)
 | mm (max:Bool) (x:Opd) (xs:List Opd)
 | assert (t:TypeId) (zero:j5) (ok:Bool) (x:Opd)
 deriving Inhabited
inductive ROp where
 | load (size:Option Nat) (a:Opd)
 | look (kk:EqK) (zero:j5) (ok:Bool) (m k:Opd)
 | lenM (x:Opd)
 | bytesStr (x:Opd)
 | entry (it:Opd)
 deriving Inhabited
inductive LOp where
 | alloc (zero:List j5)
 | box (x:Opd)
 | buildSlice (es len:Nat) (zero:List j5) (parts:List (Nat×Nat×Opd))
 | mkMap
 | mkSlice (es bytes:Nat) (zero:List j5) (len cap:Opd)
 | strBytes (x:Opd)
 | sl (es:Nat) (x:Opd) (lo hi:Option Opd)
 deriving Inhabited
inductive EOp where
 | store (size:Nat) (a x:Opd)
 | mapSet (kk:EqK) (m k x:Opd)
 | range (x:Opd)
 | next (it:Opd)
 | app (es:Nat) (zeros:Bool) (zero:List j5) (bytes:Nat) (s x:Opd)
 | copy (es:Nat) (d s:Opd)
 | clear (zero:List j5) (x:Opd)
 | call (f:FuncId) (args:List Opd)
 | callv (f:Opd) (args:List Opd)
 | defer (f:Opd) (args:List Opd)
 | panic (x:Opd)
 | recover
 | bad
 deriving Inhabited
inductive AOp where
 | p (o:POp)
 | r (o:ROp)
 | a (o:LOp)
 | e (o:EOp)
 deriving Inhabited
structure Inst where
 op:AOp
 dst:Option Nat
 guard:Option (Opd×Bool)
 deriving Inhabited
inductive bF where
 | skip
 | reg (ops:List Inst)
 | dreg (ids:Nat) (ops:List (Nat×Inst))
 | seq (a b:bF)
 | cond (c:Opd) (thn els:bF)
 | block (id:Nat) (body:bF)
 | loop (body:bF)
 | exit (id:Nat)
 | ret
 | rangeFunc (f:Opd) (params:List (Option Nat)) (assign body:bF)
 deriving Inhabited
inductive bB where
 | normal
 | exit (id:Nat)
 | ret
 deriving Inhabited,DecidableEq
inductive Mk where
 | c (id:Nat)
 | d (f:j5) (args:List j5)
 deriving Inhabited
inductive vI where
 | tmp (j:Nat)
 | cell (j:Nat) (size:Option Nat)
 deriving Inhabited
structure AFn where
 nargs:Nat
 args:List (Option Nat)
 nslots:Nat
 results:List vI
 body:bF
 deriving Inhabited
def mK:POp→List Opd
 | .mov x=>[x]
 | .pick a b c=>[a,b,c]
 | .build _ ps=>ps.map (·.2.2)
 | .nilCheck x=>[x]
 | .ib _ x y=>[x,y]
 | .eq _ _ x y=>[x,y]
 | .not x=>[x]
 | .neg x=>[x]
 | .conv _ x=>[x]
 | .mkIface _ x=>[x]
 | .mkFunc _ a b=>a++b
 | .slStr x a b=>x::(a.toList++b.toList)
 | .slArr _ _ x a b=>x::(a.toList++b.toList)
 | .fAddr _ x=>[x]
 | .fld _ _ x=>[x]
 | .iAddr _ x i=>[x,i]
 | .iAddrArr _ _ x i=>[x,i]
 | .iArr _ _ _ x i=>[x,i]
 | .iStr x i=>[x,i]
 | .ext x _=>[x]
 | .len x=>[x]
 | .lenS x=>[x]
 | .cap x=>[x]
 | .mm _ x xs=>x::xs
 | .assert _ _ _ x=>[x]
def Ju:ROp→List Opd
 | .load _ a=>[a]
 | .look _ _ _ m x=>[m,x]
 | .lenM x=>[x]
 | .bytesStr x=>[x]
 | .entry x=>[x]
def opsL:LOp→List Opd
 | .alloc _=>[]
 | .box x=>[x]
 | .buildSlice _ _ _ ps=>ps.map (·.2.2)
 | .mkMap=>[]
 | .mkSlice _ _ _ l c=>[l,c]
 | .strBytes x=>[x]
 | .sl _ x a b=>x::(a.toList++b.toList)
def opsE:EOp→List Opd
 | .store _ a x=>[a,x]
 | .mapSet _ a b c=>[a,b,c]
 | .range x=>[x]
 | .next x=>[x]
 | .app _ _ _ _ s x=>[s,x]
 | .copy _ d s=>[d,s]
 | .clear _ x=>[x]
 | .call _ a=>a
 | .callv g a=>g::a
 | .defer g a=>g::a
 | .panic x=>[x]
 | .recover=>[]
 | .bad=>[]
def Jv:AOp→List Opd
 | .p o=>mK o
 | .r o=>Ju o
 | .a o=>opsL o
 | .e o=>opsE o
variable {α β γ:Type}
def ob (o:Option α)(k:α→Option β):Option β:=Option.rec none (fun a=>k a) o
def bi (b:Bool)(x y:α):α:=Bool.rec y x b
def T.get (t:T α):Nat→Option α:=
 T.rec (fun _=>none) (fun _ x _ ihl ihr i=>Nat.rec (some x) (fun j _=>Nat.rec (ihl (Nat.div j 2)) (fun _ _=>ihr (Nat.div j 2)) (Nat.mod j 2)) i) t
def T.put (t:T α):Nat→α→T α:=
 T.rec (fun _ x=>.nd .e x .e) (fun l y r ihl ihr i x=>Nat.rec (.nd l x r) (fun j _=>Nat.rec (.nd (ihl (Nat.div j 2) x) y r) (fun _ _=>.nd l y (ihr (Nat.div j 2) x)) (Nat.mod j 2)) i) t
def T.kM (l:List α):T α→Nat→T α:=
 List.rec (fun t _=>t) (fun x _ ih t i=>ih (t.put i x) (Nat.succ i)) l
def T.ofList (l:List α):T α:=T.kM l .e 0
def T.slice (t:T α)(n:Nat):Nat→Option (List α):=
 Nat.rec (fun _=>some []) (fun _ ih i=>ob (t.get i) fun x=>ob (ih (Nat.succ i)) fun xs=>some (x::xs)) n
def T.rep (x:α)(n:Nat):T α→Nat→T α:=
 Nat.rec (fun t _=>t) (fun _ ih t i=>ih (t.put i x) (Nat.succ i)) n
def takeN (n:Nat):List α→Option (List α):=
 Nat.rec (fun _=>some []) (fun _ ih l=>List.rec none (fun x xs _=>ob (ih xs) fun r=>some (x::r)) l) n
def jk (n:Nat):List α→List α:=
 Nat.rec (fun l=>l) (fun _ ih l=>List.rec [] (fun _ xs _=>ih xs) l) n
def Ae (n:Nat):List α→Option α:=
 Nat.rec (fun l=>List.rec none (fun x _ _=>some x) l) (fun _ ih l=>List.rec none (fun _ xs _=>ih xs) l) n
def nth (n:Nat):List j5→j5:=
 Nat.rec (fun l=>List.rec j5.undef (fun x _ _=>x) l) (fun _ ih l=>List.rec j5.undef (fun _ xs _=>ih xs) l) n
def jl (l m:List α):List α:=List.rec m (fun x _ ih=>x::ih) l
def len' (l:List α):Nat:=List.rec 0 (fun _ _ ih=>Nat.succ ih) l
def mM (n:Nat)(vs:List α):List α→List α:=
 Nat.rec (fun l=>jl vs (jk (len' vs) l)) (fun _ ih l=>List.rec [] (fun x xs _=>x::ih xs) l) n
def sj (v:j5)(k:Nat→Nat→Option β):Option β:=match v with
 | .ptr i o=>k i o
 | _=>none
def BN (v:j5)(k:IntKind→Int→Option β):Option β:=match v with
 | .int a b=>k a b
 | _=>none
def pK (v:j5)(k:Bool→Option β):Option β:=match v with
 | .bool b=>k b
 | _=>none
def BI (v:j5)(k:List UInt8→Option β):Option β:=match v with
 | .str s=>k s
 | _=>none
def El (v:j5)(k:List j5→Option β):Option β:=match v with
 | .agg l=>k l
 | _=>none
def PE (v:j5)(k:List j5→Option β):Option β:=match v with
 | .tuple l=>k l
 | _=>none
def BO (v:j5)(nl:Option β)(k:Nat→Option β):Option β:=match v with
 | .nilMap=>nl
 | .map i=>k i
 | _=>none
def vSl (v:j5)(nl:Option β)(k:Nat→Nat→Nat→Nat→Option β)(u:Nat→Nat→Nat→Nat→Option β):Option β:=match v with
 | .nilSlice=>nl
 | .slice a b c d=>k a b c d
 | .sliceU a b c d=>u a b c d
 | _=>none
def PG (v:j5)(k:Fn→List j5→List j5→Option β):Option β:=match v with
 | .func f a b=>k f a b
 | _=>none
def PI (n:Int)(k:Nat→Option β):Option β:=match n with
 | .ofNat m=>k m
 | .negSucc _=>none
def oQ (v:j5)(k:Nat→Option β):Option β:=BN v fun _ n=>PI n k
inductive Blk where
 | void
 | dead
 | cells (rs n:Nat) (rows:T (List j5))
 | map (es:List (j5×j5))
 | iter (m:Option Nat) (since:Nat) (seen:List Nat)
 | tail (parent:Nat)
 | loop (st:LoopState) (pend:Option bB) (env:T j5) (params:List (Option Nat)) (assign body:bF)
 | deferred
 deriving Inhabited
structure Mem where
 t:T Blk
 next:Nat
 lim:Nat
def Mem.get (m:Mem)(i:Nat):Option Blk:=m.t.get i
def Mem.new (m:Mem)(b:Blk):Mem:=⟨m.t.put m.next b,Nat.succ m.next,m.lim⟩
def Mem.set (m:Mem)(i:Nat)(b:Blk):Mem:=⟨m.t.put i b,m.next,m.lim⟩
def aO (b:Option Blk)(k:Nat→Nat→T (List j5)→Option β):Option β:=match b with
 | some (.cells rs n rows)=>k rs n rows
 | _=>none
def vEs (b:Option Blk)(k:List (j5×j5)→Option β):Option β:=match b with
 | some (.map es)=>k es
 | _=>none
def cell1 (rs n:Nat)(rows:T (List j5))(off:Nat):Option j5:=
 Bool.rec none (Option.rec none (fun row=>Ae (Nat.mod off rs) row) (rows.get (Nat.div off rs))) (Nat.blt (Nat.div off rs) n)
def mO (rs n:Nat)(rows:T (List j5))(off k:Nat):Option (List j5):=
 bi (Nat.blt (Nat.div off rs) n) (ob (rows.get (Nat.div off rs)) fun row=>
  bi (Nat.beq (Nat.mod off rs) 0) (bi (Nat.beq k rs) (some row) (takeN k row)) (takeN k (jk (Nat.mod off rs) row))) none
def M5 (rs n:Nat)(rows:T (List j5))(k:Nat):Nat→Option (List j5):=
 Nat.rec (fun _=>some []) (fun _ ih off=>ob (cell1 rs n rows off) fun v=>ob (ih (Nat.succ off)) fun l=>some (v::l)) k
def aX (rs n:Nat)(rows:T (List j5))(off:Nat)(vs:List j5):Option (T (List j5)):=
 bi (Nat.blt (Nat.div off rs) n) (ob (rows.get (Nat.div off rs)) fun row=>
  bi (Nat.ble (Nat.add (Nat.mod off rs) (len' vs)) rs) (some (rows.put (Nat.div off rs) (mM (Nat.mod off rs) vs row))) none) none
def fJ (rs n:Nat)(vs:List j5):T (List j5)→Nat→Option (T (List j5)):=
 List.rec (fun rows _=>some rows) (fun v _ ih rows off=>ob (aX rs n rows off [v]) fun rows'=>ih rows' (Nat.succ off)) vs
def rowsOf (rs n:Nat):List j5→Option (List (List j5)):=
 Nat.rec (fun l=>List.rec (some []) (fun _ _ _=>none) l) (fun _ ih l=>ob (takeN rs l) fun r=>ob (ih (jk rs l)) fun rest=>some (r::rest)) n
def J5 (v:j5):Bool:=match v with
 | .undef | .agg _ | .tuple _ | .pan _=>false
 | _=>true
def O7 (l:List j5):Bool:=List.rec true (fun v _ ih=>bi (J5 v) ih false) l
def storeAt (m:Mem)(id off:Nat)(vs:List j5)(k:Mem→Option β):Option β:=
 bi (Nat.blt id m.lim) none (bi (O7 vs) (aO (m.get id) fun rs n rows=>ob (aX rs n rows off vs) fun rows'=>k (m.set id (.cells rs n rows'))) none)
def iH (m:Mem)(id off:Nat)(vs:List j5)(k:Mem→Option β):Option β:=
 List.rec (k m) (fun _ _ _=>bi (Nat.blt id m.lim) none (bi (O7 vs) (aO (m.get id) fun rs n rows=>ob (fJ rs n vs rows off) fun rows'=>k (m.set id (.cells rs n rows'))) none)) vs
abbrev OF:=List j5→T j5→j5
def oU (k:Nat):OF:=fun ls _=>nth k ls
def oL0:OF:=fun ls _=>List.rec j5.undef (fun x _ _=>x) ls
def oL1:OF:=fun ls _=>List.rec j5.undef (fun _ l _=>List.rec j5.undef (fun x _ _=>x) l) ls
def oL2:OF:=fun ls _=>List.rec j5.undef (fun _ l _=>List.rec j5.undef (fun _ l _=>List.rec j5.undef (fun x _ _=>x) l) l) ls
def oL3:OF:=fun ls _=>List.rec j5.undef (fun _ l _=>List.rec j5.undef (fun _ l _=>List.rec j5.undef (fun _ l _=>List.rec j5.undef (fun x _ _=>x) l) l) l) ls
def Q6 (v:j5):OF:=fun _ _=>v
def gH:T j5→j5:=T.rec .undef (fun _ x _ _ _=>x)
def gL (g:T j5→j5):T j5→j5:=T.rec .undef (fun l _ _ _ _=>g l)
def gR (g:T j5→j5):T j5→j5:=T.rec .undef (fun _ _ r _ _=>g r)
def dF (g:T j5→j5):OF:=fun _ env=>g env
def way:Nat→Nat→T j5→j5
 | 0,_=>fun _=>.undef
 | _+1,0=>gH
 | n+1,j+1=>match j%2 with
  | 0=>gL (way n (j / 2))
  | _=>gR (way n (j / 2))
def trO:Opd→OF
 | .loc 0=>oL0
 | .loc 1=>oL1
 | .loc 2=>oL2
 | .loc 3=>oL3
 | .loc k=>oU k
 | .slot j=>dF (way 64 j)
 | .con v=>Q6 v
def mE:List Opd→List OF
 | []=>[]
 | x::l=>trO x::mE l
def su:Option Opd→Option OF
 | none=>none
 | some x=>some (trO x)
def evs (l:List OF)(ls:List j5)(env:T j5):List j5:=List.rec [] (fun x _ ih=>x ls env::ih) l
def sH:j5→T j5→T j5:=fun v=>T.rec .e (fun l _ r _ _=>.nd l v r)
def sL (s:j5→T j5→T j5):j5→T j5→T j5:=fun v=>T.rec .e (fun l x r _ _=>.nd (s v l) x r)
def sR (s:j5→T j5→T j5):j5→T j5→T j5:=fun v=>T.rec .e (fun l x r _ _=>.nd l x (s v r))
def G9:Nat→Nat→j5→T j5→T j5
 | 0,_=>fun _ t=>t
 | _+1,0=>sH
 | n+1,j+1=>match j%2 with
  | 0=>sL (G9 n (j / 2))
  | _=>sR (G9 n (j / 2))
def sNo:j5→T j5→T j5:=fun _ t=>t
def trD:Option Nat→j5→T j5→T j5
 | none=>sNo
 | some j=>G9 64 j
def w64 (n:Int):Int:=match n with
 | .ofNat m=>bi (Nat.blt m 9223372036854775808) (.ofNat m) (IntKind.i64.wrap (.ofNat m))
 | .negSucc m=>bi (Nat.blt m 9223372036854775808) (.negSucc m) (IntKind.i64.wrap (.negSucc m))
def jL (k:IntKind)(n:Int):Int:=match k with
 | .i64=>w64 n
 | k=>k.wrap n
def xK:Int→Int→Bool
 | .ofNat a,.ofNat b=>Nat.beq a b
 | .negSucc a,.negSucc b=>Nat.beq a b
 | _,_=>false
def oK:Int→Int→Bool
 | .ofNat a,.ofNat b=>Nat.blt a b
 | .negSucc _,.ofNat _=>true
 | .ofNat _,.negSucc _=>false
 | .negSucc a,.negSucc b=>Nat.blt b a
def kEq (a b:IntKind):Bool:=match a,b with
 | .i64,.i64=>true
 | a,b=>decide (a=b)
def strEq (a:List UInt8):List UInt8→Bool:=
 List.rec (fun b=>List.rec true (fun _ _ _=>false) b) (fun x _ ih b=>List.rec false (fun y ys _=>bi (Nat.beq x.toNat y.toNat) (ih ys) false) b) a
def pO:List UInt8→List UInt8→Bool
 | _,[]=>false
 | [],_ :: _=>true
 | a::x,b::y=>a<b||(a==b&&pO x y)
def Jw (k:IntKind)(f:BitVec k.bits→BitVec k.bits→BitVec k.bits)(a b:Int):j5:=
 .int k (k.wrap (f (BitVec.ofInt k.bits a) (BitVec.ofInt k.bits b)).toNat)
def afh (b:Int)(r:Option j5):Option j5:=match b with
 | .ofNat 0=>none
 | _=>r
abbrev IB:=IntKind→Int→Int→Option j5
def jc:IB:=fun k a b=>some (.int k (jL k (a+b)))
def BJ:IB:=fun k a b=>some (.int k (jL k (a-b)))
def Ym:IB:=fun k a b=>some (.int k (jL k (a*b)))
def PL:IB:=fun k a b=>afh b (some (.int k (jL k (a.tdiv b))))
def Jy:IB:=fun k a b=>afh b (some (.int k (a.tmod b)))
def afi:IB:=fun k a b=>some (Jw k (· &&& ·) a b)
def iOr:IB:=fun k a b=>some (Jw k (· ||| ·) a b)
def aqV:IB:=fun k a b=>some (Jw k (· ^^^ ·) a b)
def Jz:IB:=fun k a b=>some (Jw k (fun x y=>x &&& ~~~y) a b)
def iEq:IB:=fun _ a b=>some (.bool (xK a b))
def iNe:IB:=fun _ a b=>some (.bool (!xK a b))
def iLt:IB:=fun _ a b=>some (.bool (oK a b))
def iLe:IB:=fun _ a b=>some (.bool (!oK b a))
def iGt:IB:=fun _ a b=>some (.bool (oK b a))
def iGe:IB:=fun _ a b=>some (.bool (!oK a b))
def iNo:IB:=fun _ _ _=>none
abbrev SB:=List UInt8→List UInt8→Option j5
def bG:SB:=fun a b=>bi (Nat.blt (Nat.add (len' a) (len' b)) 9223372036854775808) (some (.str (jl a b))) none
def sEq:SB:=fun a b=>some (.bool (strEq a b))
def sNe:SB:=fun a b=>some (.bool (!strEq a b))
def sLt:SB:=fun a b=>some (.bool (pO a b))
def sLe:SB:=fun a b=>some (.bool (pO a b||strEq a b))
def sGt:SB:=fun a b=>some (.bool (!(pO a b||strEq a b)))
def sGe:SB:=fun a b=>some (.bool (!pO a b))
def fK:SB:=fun _ _=>none
def Nv:BinOp→IB
 | .add=>jc | .sub=>BJ | .mul=>Ym | .quo=>PL | .rem=>Jy | .and=>afi | .or=>iOr | .xor=>aqV | .andNot=>Jz
 | .shl=>iNo | .shr=>iNo | .eql=>iEq | .neq=>iNe | .lss=>iLt | .leq=>iLe | .gtr=>iGt | .geq=>iGe
def Nw:BinOp→SB
 | .add=>bG | .eql=>sEq | .neq=>sNe | .lss=>sLt | .leq=>sLe | .gtr=>sGt | .geq=>sGe
 | _=>fK
def Jo (f:IB)(g:SB)(x y:j5):Option j5:=match x with
 | .int k a=>BN y fun k' b=>bi (kEq k k') (f k a b) none
 | .str a=>BI y fun b=>g a b
 | _=>none
def aeb (x y:j5):Option j5:=BN x fun k a=>oQ y fun m=>some (.int k (jL k (a*2^(min m k.bits))))
def aec (x y:j5):Option j5:=BN x fun k a=>oQ y fun m=>some (.int k (a.fdiv (2^(min m k.bits))))
def BP (a b:Bool):Bool:=bi a b (bi b false true)
def cO (x y:j5):Option Bool:=BN x fun k a=>BN y fun k' b=>bi (kEq k k') (some (xK a b)) none
def tY (x y:j5):Option Bool:=pK x fun a=>pK y fun b=>some (BP a b)
def eqStr (x y:j5):Option Bool:=BI x fun a=>BI y fun b=>some (strEq a b)
def PN (k:PK):j5→j5→Option Bool:=match k with
 | .i=>cO
 | .b=>tY
 | .s=>eqStr
def dG (ks:List PK):List j5→List j5→Option Bool:=
 List.rec (fun _ _=>some true) (fun k _ ih a b=>List.rec none (fun x xs _=>List.rec none (fun y ys _=>ob (PN k x y) fun r=>bi r (ih xs ys) (some false)) b) a) ks
def tZ (ks:List PK)(x y:j5):Option Bool:=El x fun a=>El y fun b=>dG ks a b
def JA (x y:j5):Option Bool:=match x,y with
 | .nilPtr,.nilPtr=>some true
 | .nilPtr,.ptr _ _=>some false
 | .ptr _ _,.nilPtr=>some false
 | _,_=>none
def ku (x y:j5):Option Bool:=match x,y with
 | .nilSlice,.nilSlice=>some true
 | .nilSlice,.slice .. | .nilSlice,.sliceU ..=>some false
 | .slice ..,.nilSlice | .sliceU ..,.nilSlice=>some false
 | _,_=>none
def JB (x y:j5):Option Bool:=match x,y with
 | .nilMap,.nilMap=>some true
 | .nilMap,.map _ | .map _,.nilMap=>some false
 | _,_=>none
def BQ (x y:j5):Option Bool:=match x,y with
 | .nilFunc,.nilFunc=>some true
 | .nilFunc,.func .. | .func ..,.nilFunc=>some false
 | _,_=>none
def jm (x y:j5):Option Bool:=match x,y with
 | .nilIface,.nilIface=>some true
 | .nilIface,.iface .. | .iface ..,.nilIface=>some false
 | _,_=>none
abbrev EqF:=j5→j5→Option Bool
def BK:EqK→EqF
 | .prim .i=>cO | .prim .b=>tY | .prim .s=>eqStr | .flat ks=>tZ ks | .ptr=>JA | .slice=>ku | .map=>JB | .func=>BQ | .iface=>jm
abbrev PF:=List j5→T j5→Option j5
def fB (x:OF):PF:=fun ls env=>some (x ls env)
def fM (c a b:OF):PF:=fun ls env=>pK (c ls env) fun t=>some (bi t (a ls env) (b ls env))
def lay (ps:List (Nat×Nat×OF))(ls:List j5)(env:T j5):List j5→Option (List j5):=
 List.rec (fun cs=>some cs) (fun p _ ih cs=>
  bi (Nat.beq (len' (p.2.2 ls env).cells) p.2.1) (bi (Nat.ble (Nat.add p.1 p.2.1) (len' cs)) (ih (mM p.1 (p.2.2 ls env).cells cs)) none) none) ps
def P6 (zero:List j5)(ps:List (Nat×Nat×OF)):PF:=fun ls env=>ob (lay ps ls env zero) fun l=>some (.agg l)
def zi (v:j5):Option j5:=match v with
 | .nilPtr | .nilIface | .nilFunc=>none
 | .func (.func f) a b=>some (.func (.func f) a b)
 | .func ..=>none
 | v=>some v
def fO (x:OF):PF:=fun ls env=>zi (x ls env)
def pIb (f:IB)(g:SB)(x y:OF):PF:=fun ls env=>Jo f g (x ls env) (y ls env)
def afj (x y:OF):PF:=fun ls env=>aeb (x ls env) (y ls env)
def Yn (x y:OF):PF:=fun ls env=>aec (x ls env) (y ls env)
def pEq (f:EqF)(x y:OF):PF:=fun ls env=>ob (f (x ls env) (y ls env)) fun b=>some (.bool b)
def pNe (f:EqF)(x y:OF):PF:=fun ls env=>ob (f (x ls env) (y ls env)) fun b=>some (.bool (!b))
def JC (x:OF):PF:=fun ls env=>pK (x ls env) fun b=>some (.bool (!b))
def Yo (x:OF):PF:=fun ls env=>BN (x ls env) fun k n=>some (.int k (jL k (0-n)))
def uU (k:IntKind)(x:OF):PF:=fun ls env=>BN (x ls env) fun _ n=>some (.int k (jL k n))
def zk (t:TypeId)(x:OF):PF:=fun ls env=>some (.iface t (x ls env))
def Em (fn:Fn)(a b:List OF):PF:=fun ls env=>some (.func fn (evs a ls env) (evs b ls env))
def fP (o:Option OF)(d:Nat)(ls:List j5)(env:T j5)(k:Nat→Option β):Option β:=
 Option.rec (k d) (fun x=>oQ (x ls env) k) o
def mF (x:OF)(lo hi:Option OF):PF:=fun ls env=>BI (x ls env) fun s=>
 fP lo 0 ls env fun l=>fP hi (len' s) ls env fun h=>
  bi (Nat.ble l h) (bi (Nat.ble h (len' s)) (ob (takeN (Nat.sub h l) (jk l s)) fun r=>some (.str r)) none) none
def PO (es n:Nat)(x:OF)(lo hi:Option OF):PF:=fun ls env=>sj (x ls env) fun id off=>
 fP lo 0 ls env fun l=>fP hi n ls env fun h=>
  bi (Nat.ble l h) (bi (Nat.ble h n) (some (.slice id (bi (Nat.beq l n) off (Nat.add off (Nat.mul l es))) (Nat.sub h l) (Nat.sub n l))) none) none
def I7 (o:Nat)(x:OF):PF:=fun ls env=>sj (x ls env) fun id off=>some (.ptr id (Nat.add off o))
def JD (off:Nat)(x:OF):PF:=fun ls env=>El (x ls env) fun cs=>Ae off cs
def RB (off k:Nat)(x:OF):PF:=fun ls env=>El (x ls env) fun cs=>ob (takeN k (jk off cs)) fun l=>some (.agg l)
def idx (len:Nat)(v:j5)(k:Nat→Option β):Option β:=oQ v fun i=>bi (Nat.blt i len) (k i) none
def J9 (es:Nat)(x i:OF):PF:=fun ls env=>
 vSl (x ls env) none (fun id off len _=>idx len (i ls env) fun k=>some (.ptr id (Nat.add off (Nat.mul k es))))
  (fun id off len _=>idx len (i ls env) fun k=>some (.ptr id (Nat.add off (Nat.mul k es))))
def mP (es n:Nat)(x i:OF):PF:=fun ls env=>sj (x ls env) fun id off=>idx n (i ls env) fun k=>some (.ptr id (Nat.add off (Nat.mul k es)))
def PS (es n:Nat)(x i:OF):PF:=fun ls env=>El (x ls env) fun cs=>idx n (i ls env) fun k=>Ae (Nat.mul k es) cs
def PU (es n sz:Nat)(x i:OF):PF:=fun ls env=>El (x ls env) fun cs=>idx n (i ls env) fun k=>ob (takeN sz (jk (Nat.mul k es) cs)) fun l=>some (.agg l)
def vJ (x i:OF):PF:=fun ls env=>BI (x ls env) fun s=>oQ (i ls env) fun k=>ob (Ae k s) fun b=>some (.int .u8 b.toNat)
def pExt (x:OF)(i:Nat):PF:=fun ls env=>PE (x ls env) fun l=>Ae i l
def lenOf (v:j5):Option Nat:=match v with
 | .nilSlice=>some 0
 | .slice _ _ n _=>some n
 | .sliceU _ _ n _=>some n
 | .str s=>some (len' s)
 | _=>none
def Af (x:OF):PF:=fun ls env=>vSl (x ls env) (some (.int .i64 0)) (fun _ _ n _=>some (.int .i64 (.ofNat n))) (fun _ _ n _=>some (.int .i64 (.ofNat n)))
def Ag (x:OF):PF:=fun ls env=>BI (x ls env) fun s=>some (.int .i64 (.ofNat (len' s)))
def YW (x:OF):PF:=fun ls env=>vSl (x ls env) (some (.int .i64 0)) (fun _ _ _ c=>some (.int .i64 (.ofNat c))) (fun _ _ _ _=>none)
def mm2 (mx:Bool)(x y:j5):Option j5:=BN x fun k a=>BN y fun _ b=>some (.int k (bi mx (bi (oK a b) b a) (bi (oK b a) b a)))
def JE (mx:Bool)(ys:List j5):j5→Option j5:=List.rec (fun x=>some x) (fun y _ ih x=>ob (mm2 mx x y) ih) ys
def pMm (mx:Bool)(x:OF)(xs:List OF):PF:=fun ls env=>JE mx (evs xs ls env) (x ls env)
def JF (t:TypeId)(zero:j5)(ok:Bool)(v:j5):Option j5:=match v with
 | .iface u y=>bi (Nat.beq u t) (some (bi ok (.tuple [y,.bool true]) y)) (bi ok (some (.tuple [zero,.bool false])) none)
 | .nilIface=>bi ok (some (.tuple [zero,.bool false])) none
 | _=>none
def pQ (t:TypeId)(zero:j5)(ok:Bool)(x:OF):PF:=fun ls env=>JF t zero ok (x ls env)
def Hu:List (Nat×Nat×Opd)→List (Nat×Nat×OF)
 | []=>[]
 | p::l=>(p.1,p.2.1,trO p.2.2)::Hu l
def trP:POp→PF
 | .mov x=>fB (trO x)
 | .pick c a b=>fM (trO c) (trO a) (trO b)
 | .build z ps=>P6 z (Hu ps)
 | .nilCheck x=>fO (trO x)
 | .ib op x y=>match op with
  | .shl=>afj (trO x) (trO y)
  | .shr=>Yn (trO x) (trO y)
  | op=>pIb (Nv op) (Nw op) (trO x) (trO y)
 | .eq neg k x y=>match neg with
  | true=>pNe (BK k) (trO x) (trO y)
  | false=>pEq (BK k) (trO x) (trO y)
 | .not x=>JC (trO x)
 | .neg x=>Yo (trO x)
 | .conv k x=>uU k (trO x)
 | .mkIface t x=>zk t (trO x)
 | .mkFunc fn a b=>Em fn (mE a) (mE b)
 | .slStr x lo hi=>mF (trO x) (su lo) (su hi)
 | .slArr es n x lo hi=>PO es n (trO x) (su lo) (su hi)
 | .fAddr o x=>I7 o (trO x)
 | .fld off size x=>match size with
  | none=>JD off (trO x)
  | some k=>RB off k (trO x)
 | .iAddr es x i=>J9 es (trO x) (trO i)
 | .iAddrArr es n x i=>mP es n (trO x) (trO i)
 | .iArr es n size x i=>match size with
  | none=>PS es n (trO x) (trO i)
  | some k=>PU es n k (trO x) (trO i)
 | .iStr x i=>vJ (trO x) (trO i)
 | .ext x i=>pExt (trO x) i
 | .len x=>Af (trO x)
 | .lenS x=>Ag (trO x)
 | .cap x=>YW (trO x)
 | .mm mx x xs=>pMm mx (trO x) (mE xs)
 | .assert t z ok x=>pQ t z ok (trO x)
abbrev RF:=List j5→T j5→Mem→Option j5
def uf (a:OF):RF:=fun ls env m=>sj (a ls env) fun id off=>aO (m.get id) fun rs n rows=>cell1 rs n rows off
def aL (k:Nat)(a:OF):RF:=fun ls env m=>sj (a ls env) fun id off=>aO (m.get id) fun rs n rows=>ob (mO rs n rows off k) fun l=>some (.agg l)
def findKey (f:EqF)(k:j5)(es:List (j5×j5)):Nat→Option (Option (Nat×j5)):=
 List.rec (fun _=>some none) (fun e _ ih i=>ob (f k e.1) fun b=>bi b (some (some (i,e.2))) (ih (Nat.succ i))) es
def found (ok:Bool)(zero:j5)(o:Option (Nat×j5)):Option j5:=
 Option.rec (some (bi ok (.tuple [zero,.bool false]) zero)) (fun p=>some (bi ok (.tuple [p.2,.bool true]) p.2)) o
def dn (f:EqF)(n:Nat)(k:j5)(es:List (j5×j5)):Option (Option (Nat×j5)):=
 bi (Nat.beq (len' k.cells) n) (List.rec (ob (f k k) fun _=>some none) (fun _ _ _=>findKey f k es 0) es) none
def iU (f:EqF)(n:Nat)(zero:j5)(ok:Bool)(mp k:OF):RF:=fun ls env m=>
 BO (mp ls env) (ob (dn f n (k ls env) []) fun r=>found ok zero r) fun id=>vEs (m.get id) fun es=>ob (dn f n (k ls env) es) fun r=>found ok zero r
def YX (x:OF):RF:=fun ls env m=>BO (x ls env) (some (.int .i64 0)) fun id=>vEs (m.get id) fun es=>some (.int .i64 (.ofNat (len' es)))
def bytesOf:List UInt8→List j5
 | []=>[]
 | b::l=>.int .u8 b.toNat::bytesOf l
def byteOf:List j5→Option (List UInt8)
 | []=>some []
 | .int .u8 (.ofNat n)::l=>match byteOf l with
  | some s=>some (UInt8.ofNat n::s)
  | none=>none
 | _ :: _=>none
def R4 (m:Mem)(id off n:Nat):Option (List j5):=
 Nat.rec (some []) (fun _ _=>aO (m.get id) fun rs k rows=>M5 rs k rows n off) n
def ah (m:Mem)(es n:Nat)(v:j5):Option (List j5):=match v with
 | .nilSlice=>some []
 | .slice id off _ _=>R4 m id off (Nat.mul n es)
 | .sliceU id off _ _=>R4 m id off (Nat.mul n es)
 | .str s=>some (bytesOf (s.take n))
 | _=>none
def aM (x:OF):RF:=fun ls env m=>
 vSl (x ls env) (some (.str [])) (fun id off len _=>ob (R4 m id off len) fun l=>ob (byteOf l) fun s=>some (.str s))
  (fun id off len _=>ob (R4 m id off len) fun l=>ob (byteOf l) fun s=>some (.str s))
def Ny (b:Option Blk)(nl:Option β)(k:Nat→Nat→List Nat→Option β):Option β:=match b with
 | some (.iter none _ _)=>nl
 | some (.iter (some mp) since seen)=>k mp since seen
 | _=>none
def PV (it:OF):RF:=fun ls env m=>sj (it ls env) fun id off=>bi (Nat.beq off 0)
 (Ny (m.get id) none fun mp since seen=>List.rec none (fun i _ _=>vEs (m.get mp) fun es=>bi (Nat.beq (len' es) since) (ob (Ae i es) fun e=>some (.tuple [e.1,e.2])) none) seen) none
def NA:EqK→Nat
 | .flat ks=>ks.length
 | _=>1
def trR:ROp→RF
 | .load size a=>match size with
  | none=>uf (trO a)
  | some k=>aL k (trO a)
 | .look kk zero ok m k=>iU (BK kk) (NA kk) zero ok (trO m) (trO k)
 | .lenM x=>YX (trO x)
 | .bytesStr x=>aM (trO x)
 | .entry it=>PV (trO it)
abbrev LR:=Option (j5×Option Blk)
abbrev LF:=List j5→T j5→Nat→LR
def A9 (cs:List j5):Blk:=.cells (len' cs) 1 (.nd .e cs .e)
def iO (es n:Nat)(cells:List j5)(k:Blk→Option β):Option β:=ob (rowsOf es n cells) fun rows=>k (.cells es n (T.ofList rows))
def iI (zero:List j5):LF:=fun _ _ nid=>some (.ptr nid 0,some (A9 zero))
def RD (x:OF):LF:=fun ls env nid=>some (.ptr nid 0,some (A9 (x ls env).cells))
def U5 (zero:List j5)(n:Nat):List j5:=Nat.rec [] (fun _ ih=>jl zero ih) n
def J2 (es len:Nat)(zero:List j5)(ps:List (Nat×Nat×OF)):LF:=fun ls env nid=>
 ob (lay ps ls env (U5 zero len)) fun cells=>iO es len cells fun b=>some (.slice nid 0 len len,some b)
def BR:LF:=fun _ _ nid=>some (.map nid,some (.map []))
def qA (es bytes:Nat)(zero:List j5)(len cap:OF):LF:=fun ls env nid=>
 oQ (len ls env) fun l=>oQ (cap ls env) fun c=>
  bi (Nat.ble l c) (bi (Nat.ble (Nat.mul bytes c) 281474976710656) (bi (Nat.blt c 9223372036854775808)
   (some (.slice nid 0 l c,some (.cells es c (T.rep zero c .e 0)))) none) none) none
def BS (x:OF):LF:=fun ls env nid=>BI (x ls env) fun s=>iO 1 (len' s) (bytesOf s) fun b=>some (.sliceU nid 0 (len' s) 1,some b)
def R9 (nid es:Nat)(x:j5)(lo:Nat)(hi:Option Nat):LR:=
 vSl x (bi (Nat.beq lo 0) (Option.rec (some (.nilSlice,none)) (fun h=>bi (Nat.beq h 0) (some (.nilSlice,none)) none) hi) none)
  (fun id off len cap=>Option.rec (known id off cap len) (fun h=>known id off cap h) hi)
  (fun id off len es'=>Option.rec (unk id off len es' len) (fun h=>unk id off len es' h) hi)
where
 known (id off cap h:Nat):LR:=bi (Nat.ble lo h) (bi (Nat.ble h cap)
  (some (.slice id (bi (Nat.beq lo cap) off (Nat.add off (Nat.mul lo es))) (Nat.sub h lo) (Nat.sub cap lo),none)) none) none
 unk (id off len es' h:Nat):LR:=bi (Nat.ble lo h) (bi (Nat.ble h len) (bi (Nat.beq es es')
  (bi (Nat.blt lo len) (some (.sliceU id (Nat.add off (Nat.mul lo es)) (Nat.sub h lo) es,none))
   (bi (Nat.beq lo 0) (some (.sliceU id off (Nat.sub h lo) es,none)) (some (.sliceU nid 0 0 es,some (.tail id))))) none) none) none
def lSl (es:Nat)(x:OF)(lo hi:Option OF):LF:=fun ls env nid=>fP lo 0 ls env fun l=>
 Option.rec (R9 nid es (x ls env) l none) (fun h=>oQ (h ls env) fun h=>R9 nid es (x ls env) l (some h)) hi
def trL:LOp→LF
 | .alloc zero=>iI zero
 | .box x=>RD (trO x)
 | .buildSlice es len zero ps=>J2 es len zero (Hu ps)
 | .mkMap=>BR
 | .mkSlice es bytes zero l c=>qA es bytes zero (trO l) (trO c)
 | .strBytes x=>BS (trO x)
 | .sl es x lo hi=>lSl es (trO x) (su lo) (su hi)
structure VM where
 v:j5
 m:Mem
abbrev vK:=Option (List VM)
abbrev K8:=Fn→List j5→Mem→vK
abbrev EF:=K8→List j5→T j5→Mem→vK
def one (v:j5)(m:Mem):vK:=some [⟨v,m⟩]
def O5 (size:Nat)(a x:OF):EF:=fun _ ls env m=>sj (a ls env) fun id off=>
 bi (Nat.beq (len' (x ls env).cells) size) (storeAt m id off (x ls env).cells fun m'=>one .undef m') none
def jO (es:List (j5×j5))(k v:j5):Nat→List (j5×j5):=
 List.rec (fun _=>[]) (fun e es ih i=>Nat.rec ((k,v)::es) (fun j _=>e::ih j) i) es
def jo (f:EqF)(n:Nat)(mp k x:OF):EF:=fun _ ls env m=>BO (mp ls env) none fun id=>bi (Nat.blt id m.lim) none
 (vEs (m.get id) fun es=>ob (dn f n (k ls env) es) fun r=>
  Option.rec (one .undef (m.set id (.map (jl es [(k ls env,x ls env)])))) (fun p=>ob (Ae p.1 es) fun e=>
   bi (Nat.beq (len' e.1.cells) n) (one .undef (m.set id (.map (jO es (k ls env) (x ls env) p.1)))) none) r)
def PW (x:OF):EF:=fun _ ls env m=>BO (x ls env) (one (.ptr m.next 0) (m.new (.iter none 0 [])))
 fun id=>vEs (m.get id) fun es=>one (.ptr m.next 0) (m.new (.iter (some id) (len' es) []))
def YZ (n:Nat)(l:List Nat):Bool:=List.rec false (fun x _ ih=>bi (Nat.beq x n) true ih) l
def nexts (m:Mem)(id mp since:Nat)(seen:List Nat)(es:List (j5×j5)):Nat→List VM:=
 List.rec (fun _=>[]) (fun e _ ih i=>bi (YZ i seen) (ih (Nat.succ i))
  (⟨.tuple [.bool true,e.1,e.2],m.set id (.iter (some mp) since (i::seen))⟩::ih (Nat.succ i))) es
def JG (m:Mem)(l:List VM):List VM:=List.rec [⟨.tuple [.bool false],m⟩] (fun x xs _=>x::xs) l
def Za (it:OF):EF:=fun _ ls env m=>sj (it ls env) fun id off=>bi (Nat.beq off 0) (bi (Nat.blt id m.lim) none
 (Ny (m.get id) (one (.tuple [.bool false]) m) fun mp since seen=>vEs (m.get mp) fun es=>
  bi (Nat.beq (len' es) since) (some (JG m (nexts m id mp since seen es 0))) none)) none
def big (n bytes es:Nat):Bool:=bi (Nat.ble (Nat.mul (Nat.add (Nat.mul 2 n) 2048) bytes) 281474976710656) (bi (Nat.ble 1 es) (Nat.ble 1 bytes) false) false
def grown (m:Mem)(es n:Nat)(cells:List j5):vK:=iO es n cells fun b=>one (.sliceU m.next 0 n es) (m.new b)
def JH (m:Mem)(es bytes n:Nat)(new:List j5):vK:=
 Nat.rec (one .nilSlice m) (fun _ _=>bi (big n bytes es) (grown m es n new) none) n
def lu (m:Mem)(es bytes n:Nat)(new:List j5)(id off len cap:Nat):vK:=
 bi (Nat.ble (Nat.add len n) cap) (iH m id (Nat.add off (Nat.mul len es)) new fun m'=>one (.slice id off (Nat.add len n) cap) m')
  (bi (big (Nat.add len n) bytes es) (ob (R4 m id off (Nat.mul len es)) fun old=>grown m es (Nat.add len n) (jl old new)) none)
def BU (b:Option Blk)(c:Nat→Nat→T (List j5)→Option β)(k:Nat→Option β):Option β:=match b with
 | some (.cells rs n rows)=>c rs n rows
 | some (.tail p)=>k p
 | _=>none
def vM (m:Mem)(es bytes n:Nat)(new:List j5)(id off len es':Nat):vK:=
 Nat.rec (one (.sliceU id off len es') m) (fun _ _=>bi (Nat.beq es es') (bi (big (Nat.add len n) bytes es) (bi (Nat.ble m.lim id) (bi (O7 new)
  (BU (m.get id)
   (fun rs k rows=>
    bi (bi (Nat.beq rs es) (bi (Nat.beq off 0) (bi (Nat.ble len k) (bi (Nat.beq n 1) (Nat.beq (len' new) es) false) false) false) false)
     (one (.sliceU m.next 0 (Nat.succ len) es) ((m.set id .dead).new (.cells es (Nat.succ len) (rows.put len new))))
     (ob (M5 rs k rows (Nat.mul len es) off) fun old=>grown (m.set id .dead) es (Nat.add len n) (jl old new)))
   (fun p=>aO (m.get p) fun _ _ _=>bi (Nat.ble m.lim p) (bi (Nat.beq len 0) (grown (m.set p .dead) es n new) none) none)) none) none) none) none) n
def pR (m:Mem)(es bytes n:Nat)(new:List j5)(s:j5):vK:=
 vSl s (JH m es bytes n new) (fun a b c d=>lu m es bytes n new a b c d) (fun a b c d=>vM m es bytes n new a b c d)
def lC (es bytes:Nat)(s x:OF):EF:=fun _ ls env m=>ob (lenOf (x ls env)) fun n=>ob (ah m es n (x ls env)) fun new=>pR m es bytes n new (s ls env)
def RG (es:Nat)(zero:List j5)(bytes:Nat)(s x:OF):EF:=fun _ ls env m=>oQ (x ls env) fun n=>
 bi (Nat.ble (Nat.mul n bytes) 281474976710656) (bi (Nat.blt n 9223372036854775808) (pR m es bytes n (U5 zero n) (s ls env)) none) none
def RH (es:Nat)(d s:OF):EF:=fun _ ls env m=>ob (lenOf (s ls env)) fun n=>
 vSl (d ls env) (one (.int .i64 0) m) (fun id off len _=>go m n id off len (s ls env)) (fun id off len _=>go m n id off len (s ls env))
where
 go (m:Mem) (n id off len:Nat) (s:j5):vK:=ob (ah m es (Nat.min n len) s) fun cells=>iH m id off cells fun m'=>one (.int .i64 (.ofNat (Nat.min n len))) m'
def JI (zero:List j5)(x:OF):EF:=fun _ ls env m=>
 vSl (x ls env) (one (.tuple []) m) (fun id off len _=>iH m id off (U5 zero len) fun m'=>one (.tuple []) m')
  (fun id off len _=>iH m id off (U5 zero len) fun m'=>one (.tuple []) m')
def G8 (f:FuncId)(args:List OF):EF:=fun cf ls env m=>cf (.func f) (evs args ls env) m
def RI (cf:K8)(m:Mem)(args:List j5)(v:j5):vK:=PG v fun fn a b=>match fn with
 | .func f=>cf (.func f) (jl a (jl args b)) m
 | .yield l=>cf (.yield l) (jl a args) m
 | _=>none
def kN (f:OF)(args:List OF):EF:=fun cf ls env m=>RI cf m (evs args ls env) (f ls env)
def aed (v:j5)(m:Mem):vK:=match v with
 | .iface t x=>one (.pan (.iface t x)) m
 | _=>none
def vN (x:OF):EF:=fun _ ls env m=>aed (x ls env) m
def Zb:EF:=fun _ _ _ _=>none
def trE:EOp→EF
 | .store size a x=>O5 size (trO a) (trO x)
 | .mapSet kk m k x=>jo (BK kk) (NA kk) (trO m) (trO k) (trO x)
 | .range x=>PW (trO x)
 | .next it=>Za (trO it)
 | .app es zeros zero bytes s x=>match zeros with
  | true=>RG es zero bytes (trO s) (trO x)
  | false=>lC es bytes (trO s) (trO x)
 | .copy es d s=>RH es (trO d) (trO s)
 | .clear zero x=>JI zero (trO x)
 | .call f args=>G8 f (mE args)
 | .callv f args=>kN (trO f) (mE args)
 | .panic x=>vN (trO x)
 | .defer _ _=>Zb
 | .recover=>Zb
 | .bad=>Zb
def Hw (f:α→Option (List β))(l:List α):Option (List β):=
 List.rec (some []) (fun a _ ih=>ob (f a) fun x=>ob ih fun y=>some (x++y)) l
def bnd (x:Option (List α))(f:α→Option (List β)):Option (List β):=
 Option.rec none (fun l=>List.rec (some []) (fun a t _=>List.rec (f a) (fun _ _ _=>Hw f l) t) l) x
structure EM where
 env:T j5
 m:Mem
 px:Option j5
 mks:List Mk
def kK (v:j5)(p:j5→β)(q:β):β:=match v with
 | .pan x=>p x
 | _=>q
abbrev RC:=K8→List j5→T j5→Mem→Option (List EM)
def D7:RC:=fun _ _ env m=>some [⟨env,m,none,[]⟩]
def rcP (f:PF)(d:j5→T j5→T j5)(k:RC):RC:=fun cf ls env m=>Option.rec none (fun v=>k cf (v::ls) (d v env) m) (f ls env)
def r9 (f:PF)(k:RC):RC:=fun cf ls env m=>Option.rec none (fun v=>k cf (v::ls) env m) (f ls env)
def rcR (f:RF)(d:j5→T j5→T j5)(k:RC):RC:=fun cf ls env m=>Option.rec none (fun v=>k cf (v::ls) (d v env) m) (f ls env m)
def H9 (f:RF)(k:RC):RC:=fun cf ls env m=>Option.rec none (fun v=>k cf (v::ls) env m) (f ls env m)
def Nk (m:Mem)(b:Option Blk):Mem:=Option.rec m (fun b=>m.new b) b
def rcL (f:LF)(d:j5→T j5→T j5)(k:RC):RC:=fun cf ls env m=>ob (f ls env m.next) fun r=>k cf (r.1::ls) (d r.1 env) (Nk m r.2)
def dZ (f:LF)(k:RC):RC:=fun cf ls env m=>Option.rec none (fun r=>k cf (r.1::ls) env (Nk m r.2)) (f ls env m.next)
def I8 (f:EF)(k:RC):RC:=fun cf ls env m=>bnd (f cf ls env m) fun r=>kK r.v (fun x=>some [⟨env,r.m,some x,[]⟩]) (k cf (r.v::ls) env r.m)
def rcE (f:EF)(d:j5→T j5→T j5)(k:RC):RC:=fun cf ls env m=>bnd (f cf ls env m) fun r=>kK r.v (fun x=>some [⟨env,r.m,some x,[]⟩]) (k cf (r.v::ls) (d r.v env) r.m)
def Hy (f:OF)(args:List OF):RC:=fun _ ls env m=>PG (f ls env) fun fn a b=>some [⟨env,m,none,[.d (.func fn a b) (evs args ls env)]⟩]
def isB (w:Bool)(v:j5):Bool:=match v with
 | .bool b=>BP b w
 | _=>false
def gP (x:OF)(w:Bool)(f:PF):PF:=fun ls env=>bi (isB w (x ls env)) (f ls env) (some .undef)
def gRd (x:OF)(w:Bool)(f:RF):RF:=fun ls env m=>bi (isB w (x ls env)) (f ls env m) (some .undef)
def gLk (x:OF)(w:Bool)(f:LF):LF:=fun ls env i=>bi (isB w (x ls env)) (f ls env i) (some (.undef,none))
def gE (x:OF)(w:Bool)(f:EF):EF:=fun cf ls env m=>bi (isB w (x ls env)) (f cf ls env m) (one .undef m)
def Jp (g:Option (Opd×Bool))(f:PF):PF:=match g with
 | none=>f
 | some (x,w)=>gP (trO x) w f
def Ga (g:Option (Opd×Bool))(f:RF):RF:=match g with
 | none=>f
 | some (x,w)=>gRd (trO x) w f
def RJ (g:Option (Opd×Bool))(f:LF):LF:=match g with
 | none=>f
 | some (x,w)=>gLk (trO x) w f
def NC (g:Option (Opd×Bool))(f:EF):EF:=match g with
 | none=>f
 | some (x,w)=>gE (trO x) w f
def trI (o:AOp)(d:Option Nat)(g:Option (Opd×Bool))(k:RC):RC:=match o with
 | .p o=>match d with
  | none=>r9 (Jp g (trP o)) k
  | some j=>rcP (Jp g (trP o)) (trD (some j)) k
 | .r o=>match d with
  | none=>H9 (Ga g (trR o)) k
  | some j=>rcR (Ga g (trR o)) (trD (some j)) k
 | .a o=>match d with
  | none=>dZ (RJ g (trL o)) k
  | some j=>rcL (RJ g (trL o)) (trD (some j)) k
 | .e o=>match d with
  | none=>I8 (NC g (trE o)) k
  | some j=>rcE (NC g (trE o)) (trD (some j)) k
def qB (i:Inst):Option (Opd×List Opd):=match i.op,i.guard,i.dst with
 | .e (.defer f as),none,none=>some (f,as)
 | _,_,_=>none
def BX (i:Inst):RC:=match qB i with
 | some p=>Hy (trO p.1) (mE p.2)
 | none=>trI i.op i.dst i.guard D7
def iP:List Inst→RC
 | []=>D7
 | [i]=>BX i
 | i::j::l=>trI i.op i.dst i.guard (iP (j::l))
def sw (f:Opd→Opd):POp→POp
 | .mov x=>.mov (f x)
 | .pick a b c=>.pick (f a) (f b) (f c)
 | .build z ps=>.build z (ps.map fun p=>(p.1,p.2.1,f p.2.2))
 | .nilCheck x=>.nilCheck (f x)
 | .ib o x y=>.ib o (f x) (f y)
 | .eq n k x y=>.eq n k (f x) (f y)
 | .not x=>.not (f x)
 | .neg x=>.neg (f x)
 | .conv k x=>.conv k (f x)
 | .mkIface t x=>.mkIface t (f x)
 | .mkFunc g a b=>.mkFunc g (a.map f) (b.map f)
 | .slStr x a b=>.slStr (f x) (a.map f) (b.map f)
 | .slArr e n x a b=>.slArr e n (f x) (a.map f) (b.map f)
 | .fAddr o x=>.fAddr o (f x)
 | .fld o s x=>.fld o s (f x)
 | .iAddr e x i=>.iAddr e (f x) (f i)
 | .iAddrArr e n x i=>.iAddrArr e n (f x) (f i)
 | .iArr e n s x i=>.iArr e n s (f x) (f i)
 | .iStr x i=>.iStr (f x) (f i)
 | .ext x i=>.ext (f x) i
 | .len x=>.len (f x)
 | .lenS x=>.lenS (f x)
 | .cap x=>.cap (f x)
 | .mm m x xs=>.mm m (f x) (xs.map f)
 | .assert t z ok x=>.assert t z ok (f x)
def Nl (f:Opd→Opd):ROp→ROp
 | .load s a=>.load s (f a)
 | .look k z o m x=>.look k z o (f m) (f x)
 | .lenM x=>.lenM (f x)
 | .bytesStr x=>.bytesStr (f x)
 | .entry x=>.entry (f x)
def PX (f:Opd→Opd):LOp→LOp
 | .alloc z=>.alloc z
 | .box x=>.box (f x)
 | .buildSlice e l z ps=>.buildSlice e l z (ps.map fun p=>(p.1,p.2.1,f p.2.2))
 | .mkMap=>.mkMap
 | .mkSlice e b z l c=>.mkSlice e b z (f l) (f c)
 | .strBytes x=>.strBytes (f x)
 | .sl e x a b=>.sl e (f x) (a.map f) (b.map f)
def Hz (f:Opd→Opd):EOp→EOp
 | .store s a x=>.store s (f a) (f x)
 | .mapSet k a b c=>.mapSet k (f a) (f b) (f c)
 | .range x=>.range (f x)
 | .next x=>.next (f x)
 | .app e z zs b s x=>.app e z zs b (f s) (f x)
 | .copy e d s=>.copy e (f d) (f s)
 | .clear z x=>.clear z (f x)
 | .call g a=>.call g (a.map f)
 | .callv g a=>.callv (f g) (a.map f)
 | .defer g a=>.defer (f g) (a.map f)
 | .panic x=>.panic (f x)
 | .recover=>.recover
 | .bad=>.bad
def mapA (f:Opd→Opd):AOp→AOp
 | .p o=>.p (sw f o)
 | .r o=>.r (Nl f o)
 | .a o=>.a (PX f o)
 | .e o=>.e (Hz f o)
def bump:Opd→Opd
 | .loc k=>.loc (k+1)
 | x=>x
def rn (r:List Opd):Opd→Opd
 | .loc k=>r.getD k (.con .undef)
 | x=>x
def vO (j:Nat):List Inst→Bool
 | []=>false
 | i::l=>i.dst==some j||vO j l
def mG (r:List Opd):List Inst→List Inst
 | []=>[]
 | i::l=>
  let keep:=⟨mapA (rn r) i.op,i.dst,i.guard.map fun p=>(rn r p.1,p.2)⟩::mG (.loc 0::r.map bump) l
  match i.op,i.dst,i.guard with
  | .p (.mov x),none,none=>match rn r x with
   | .slot j=>bif vO j l then keep else mG (.slot j::r) l
   | y=>mG (y::r) l
  | _,_,_=>keep
def Ah (f:j5→j5→Bool)(a:List j5):List j5→Bool:=
 List.rec (fun b=>List.rec true (fun _ _ _=>false) b) (fun x _ ih b=>List.rec false (fun y ys _=>bi (f x y) (ih ys) false) b) a
def dH (n:Nat):j5→j5→Bool:=Nat.rec (fun _ _=>false) (fun _ ih x y=>match x,y with
  | .bool a,.bool b=>BP a b
  | .int k a,.int k' b=>bi (kEq k k') (xK a b) false
  | .str a,.str b=>strEq a b
  | .nilPtr,.nilPtr=>true
  | .ptr a b,.ptr c d=>bi (Nat.beq a c) (Nat.beq b d) false
  | .nilSlice,.nilSlice=>true
  | .slice a b c d,.slice a' b' c' d'=>bi (Nat.beq a a') (bi (Nat.beq b b') (bi (Nat.beq c c') (Nat.beq d d') false) false) false
  | .sliceU a b c d,.sliceU a' b' c' d'=>bi (Nat.beq a a') (bi (Nat.beq b b') (bi (Nat.beq c c') (Nat.beq d d') false) false) false
  | .nilMap,.nilMap=>true
  | .map a,.map b=>Nat.beq a b
  | .nilFunc,.nilFunc=>true
  | .func (.func f) a b,.func (.func g) c d=>bi (Nat.beq f g) (bi (Ah ih a c) (Ah ih b d) false) false
  | .func (.yield f) a b,.func (.yield g) c d=>bi (Nat.beq f g) (bi (Ah ih a c) (Ah ih b d) false) false
  | .nilIface,.nilIface=>true
  | .iface t a,.iface u b=>bi (Nat.beq t u) (ih a b) false
  | .agg a,.agg b=>Ah ih a b
  | .tuple a,.tuple b=>Ah ih a b
  | .undef,.undef=>true
  | _,_=>false) n
abbrev DC:=K8→Nat→List j5→T j5→Mem→List Mem→Option (List EM)
def stable (f:RF)(ls:List j5)(env:T j5)(v:j5)(n:Nat):List Mem→Bool:=
 Nat.rec (fun _=>true) (fun _ ih gs=>List.rec false (fun m ms _=>bi (Option.rec false (fun u=>dH 100 u v) (f ls env m)) (ih ms) false) gs) n
def tl (l:List Mem):List Mem:=List.rec [] (fun _ t _=>t) l
def bC:DC:=fun _ _ _ env m _=>some [⟨env,m,none,[]⟩]
def dcP (f:PF)(d:j5→T j5→T j5)(k:DC):DC:=fun cf b ls env m gs=>ob (f ls env) fun v=>k cf b (v::ls) (d v env) m gs
def hd (m:Mem)(gs:List Mem):Mem:=List.rec m (fun g _ _=>g) gs
def isVoid (b:Option Blk):Bool:=match b with
 | some .void=>true
 | _=>false
def dI (i:Nat)(gs:List Mem):Bool:=List.rec true (fun g _ ih=>bi (isVoid (g.get i)) ih false) gs
def RL (x:Option (List α))(f:α→Option β):Option β:=
 Option.rec none (fun l=>List.rec none (fun a t _=>List.rec (f a) (fun _ _ _=>none) t) l) x
def dcR (f:RF)(c:Nat)(d:j5→T j5→T j5)(k:DC):DC:=fun cf b ls env m gs=>ob (f ls env (hd m gs)) fun v=>
 bi (stable f ls env v c (tl gs)) (k cf b (v::ls) (d v env) m gs) none
def isCells (b:Option Blk):Bool:=match b with
 | some (.cells _ _ _)=>true
 | _=>false
def Yp (x:OF)(c:Nat)(d:j5→T j5→T j5)(k:DC):DC:=fun cf b ls env m gs=>match x ls env with
 | .slice id _ _ _=>bi (isVoid ((hd m gs).get id)) (bi (isCells (m.get id)) (ob (aM x ls env m) fun v=>k cf b (v::ls) (d v env) m gs) none) (dcR (aM x) c d k cf b ls env m gs)
 | _=>dcR (aM x) c d k cf b ls env m gs
def afk (c:Nat)(o:ROp)(d:Option Nat)(g:Option (Opd×Bool))(k:DC):DC:=match o,g with
 | .bytesStr y,none=>Yp (trO y) c (trD d) k
 | o,g=>dcR (Ga g (trR o)) c (trD d) k
def RN (m:Mem)(i:Nat)(b:Option Blk):Mem:=Option.rec m (fun b=>m.set i b) b
def dcL (f:LF)(c:Nat)(d:j5→T j5→T j5)(k:DC):DC:=fun cf b ls env m gs=>ob (f ls env (Nat.add b c)) fun r=>
 bi (isVoid (m.get (Nat.add b c))) (bi (dI (Nat.add b c) gs) (k cf b (r.1::ls) (d r.1 env) (RN m (Nat.add b c) r.2) gs) none) none
abbrev GF:=List j5→T j5→Bool
def Zc:GF:=fun _ _=>true
def ghF:GF:=fun _ _=>false
def ghD (k:GF):GF:=fun ls env=>k (.undef::ls) env
def ghP (f:PF)(k:GF):GF:=fun ls env=>Option.rec false (fun v=>k (v::ls) env) (f ls env)
def RO (ds:List Bool):Opd→Bool
 | .loc k=>ds.getD k false
 | _=>false
def BZ (ds:List Bool)(i:Inst):Bool:=(Jv i.op).any (RO ds)||(match i.guard with
 | some p=>RO ds p.1
 | none=>false)
def Gb:List (Nat×Inst)→List Bool→GF
 | [],_=>Zc
 | x::l,ds=>match x.2.dst with
  | some _=>ghF
  | none=>match x.2.op with
   | .e _=>ghD (Gb l (true::ds))
   | .a _=>ghF
   | .r _=>bif BZ ds x.2 then ghD (Gb l (true::ds)) else ghF
   | .p o=>bif BZ ds x.2 then ghD (Gb l (true::ds)) else ghP (Jp x.2.guard (trP o)) (Gb l (false::ds))
def PY:List (Nat×Inst)→List Bool→Bool
 | [],_=>true
 | x::l,ds=>match x.2.dst with
  | some _=>false
  | none=>match x.2.op with
   | .e _=>PY l (true::ds)
   | .a _=>false
   | .r _=>bif BZ ds x.2 then PY l (true::ds) else false
   | .p _=>PY l (BZ ds x.2::ds)
def aee (o:AOp)(l:List (Nat×Inst)):GF:=match o with
 | .e (.call _ _)=>bif PY l [true] then Gb l [true] else ghF
 | .e (.callv _ _)=>bif PY l [true] then Gb l [true] else ghF
 | .e (.panic _)=>bif PY l [true] then Gb l [true] else ghF
 | _=>ghF
def dcE (f:EF)(gh:GF)(d:j5→T j5→T j5)(k:DC):DC:=fun cf b ls env m gs=>RL (f cf ls env m) fun r=>
 kK r.v (fun x=>bi (gh (.undef::ls) (d .undef env)) (some [⟨env,r.m,some x,[]⟩]) none) (k cf b (r.v::ls) (d r.v env) r.m (r.m::gs))
def afl (c:Nat)(o:AOp)(d:Option Nat)(g:Option (Opd×Bool))(gh:GF)(k:DC):DC:=match o with
 | .p o=>dcP (Jp g (trP o)) (trD d) k
 | .r o=>afk c o d g k
 | .a o=>dcL (RJ g (trL o)) c (trD d) k
 | .e o=>dcE (NC g (trE o)) gh (trD d) k
def zl:List (Nat×Inst)→DC
 | []=>bC
 | (c,i)::l=>afl c i.op i.dst i.guard (aee i.op l) (zl l)
def reserve (n:Nat)(m:Mem):Mem:=Nat.rec (fun m=>m) (fun _ ih m=>ih (m.new .void)) n m
structure Out where
 x:bB
 env:T j5
 m:Mem
 marks:List Mk
 pv:Option j5
abbrev SC:=K8→Nat→Option Nat→T j5→Mem→List Mk→Option (List Out)
def xL (x:bB)(env:T j5)(m:Mem)(k:List Mk):Option (List Out):=some [⟨x,env,m,k,none⟩]
def H7:SC:=fun _ _ _ env m k=>xL .normal env m k
def kP (k:List Mk)(e:EM):Option (List Out):=
 Option.rec (xL .normal e.env e.m (jl e.mks k)) (fun x=>some [⟨.ret,e.env,e.m,jl e.mks k,some x⟩]) e.px
def l9 (r:RC):SC:=fun cf _ _ env m k=>bnd (r cf [] env m) (kP k)
def Ca (r:RC):SC:=fun cf _ ir env m k=>Option.rec (bnd (r cf [] env m) (kP k)) (fun _=>none) ir
def jq:List Inst→Bool
 | []=>false
 | i::l=>(qB i).isSome||jq l
def O8 (n:Nat)(r:DC):SC:=fun cf _ _ env m k=>bnd (r cf m.next [] env (reserve n m) [reserve n m]) (kP k)
def d9 (a b:SC):SC:=fun cf fuel ir env m k=>bnd (a cf fuel ir env m k) fun o=>bB.rec (b cf fuel ir o.env o.m o.marks) (fun _=>some [o]) (some [o]) o.x
def G7 (c:OF)(a b:SC):SC:=fun cf fuel ir env m k=>pK (c [] env) fun t=>bi t (a cf fuel ir env m k) (b cf fuel ir env m k)
def D9 (id:Nat)(a:SC):SC:=fun cf fuel ir env m k=>bnd (a cf fuel ir env m k) fun o=>
 bB.rec (some [o]) (fun id'=>bi (Nat.beq id id') (xL .normal o.env o.m o.marks) (some [o])) (some [o]) o.x
def aj (body:T j5→Mem→List Mk→Option (List Out))(n:Nat):T j5→Mem→List Mk→Option (List Out):=
 Nat.rec (fun _ _ _=>none) (fun _ ih env m k=>bnd (body env m k) fun o=>bB.rec (ih o.env o.m o.marks) (fun _=>some [o]) (some [o]) o.x) n
def K9 (a:SC):SC:=fun cf fuel ir env m k=>aj (fun env m k=>a cf fuel ir env m k) fuel env m k
def eB (id:Nat):SC:=fun _ _ _ env m k=>xL (.exit id) env m k
def I9:SC:=fun _ _ _ env m k=>xL .ret env m k
def qC (b:Option Blk)(f:LoopState→Option bB→T j5→List (Option Nat)→bF→bF→Option β):Option β:=match b with
 | some (.loop st pend env params assign body)=>f st pend env params assign body
 | _=>none
def RP (cf:K8)(m:Mem)(args:List j5)(v:j5):vK:=PG v fun fn a b=>match fn with
 | .func f=>cf (.func f) (jl a (jl args b)) m
 | _=>none
def RQ (cf:K8)(f:j5)(params:List (Option Nat))(assign body:bF)(env:T j5)(m:Mem)(k:List Mk):Option (List Out):=
 bnd (RP cf (m.new (.loop .ready none env params assign body)) [.func (.yield m.next) [] []] f) fun r=>kK r.v (fun _=>none) <|
  qC (r.m.get m.next) fun st pend _ _ _ _=>match st with
   | .busy=>none
   | _=>match pend with
    | none=>xL .normal env (r.m.set m.next .dead) k
    | some x=>xL x env (r.m.set m.next .dead) k
def En (f:OF)(params:List (Option Nat))(assign body:bF):SC:=fun cf _ ir env m k=>
 Option.rec (RQ cf (f [] env) params assign body env (m.new .deferred) (.c m.next::k))
  (fun l=>qC (m.get l) fun _ _ _ _ _ _=>RQ cf (f [] env) params assign body env m k) ir
def trC:bF→SC
 | .skip=>H7
 | .reg ops=>bif jq ops then Ca (iP ops) else l9 (iP (mG [] ops))
 | .dreg n ops=>O8 n (zl ops)
 | .seq a b=>d9 (trC a) (trC b)
 | .cond c a b=>G7 (trO c) (trC a) (trC b)
 | .block id a=>D9 id (trC a)
 | .loop a=>K9 (trC a)
 | .exit id=>eB id
 | .ret=>I9
 | .rangeFunc f params assign body=>En (trO f) params assign body
def bZ (js:List (Option Nat)):List j5→T j5→Option (T j5):=
 List.rec (fun vs env=>List.rec (some env) (fun _ _ _=>none) vs) (fun j _ ih vs env=>List.rec none (fun v vs _=>ih vs (trD j v env)) vs) js
def results (rs:List vI)(env:T j5)(m:Mem):Option (List j5):=
 List.rec (some []) (fun r _ ih=>ob (match r with
  | .tmp j=>T.get env j
  | .cell j size=>ob (T.get env j) fun p=>sj p fun id off=>aO (m.get id) fun rs n rows=>match size with
   | none=>cell1 rs n rows off
   | some k=>ob (mO rs n rows off k) fun l=>some (.agg l)) fun v=>ob ih fun l=>some (v::l)) rs
def result (l:List j5):j5:=List.rec (.tuple l) (fun v t _=>List.rec v (fun _ _ _=>.tuple l) t) l
def Zd (b:Option Blk)(k:Option β):Option β:=match b with
 | some .deferred=>k
 | _=>none
abbrev jP:=FuncId→List j5→Option j5→Mem→Option (List (Mem×Option j5))
def PZ (dcf:jP)(v:j5)(args:List j5)(md:Option j5)(m:Mem):Option (List (Mem×Option j5)):=PG v fun fn a b=>match fn with
 | .func f=>dcf f (jl a (jl args b)) md m
 | _=>none
def Cb (dcf:jP)(fin:Option j5→Mem→vK):List Mk→Option j5→Mem→vK:=
 List.rec (fun md m=>fin md m) (fun x _ ih md m=>match x with
  | .c id=>Zd (m.get id) (ih md (m.set id .dead))
  | .d v args=>bnd (PZ dcf v args md m) fun r=>ih r.2 r.1)
def vP (rs:List vI)(env:T j5)(md:Option j5)(m:Mem):vK:=
 Option.rec (ob (results rs env m) fun l=>one (result l) m) (fun x=>one (.pan x) m) md
def leave (dcf:jP)(rs:List vI)(o:Out):vK:=bB.rec (Cb dcf (vP rs o.env) o.marks none o.m) (fun _=>none) (Cb dcf (vP rs o.env) o.marks o.pv o.m) o.x
def roundEnd (l:Nat)(o:Out):vK:=match o.marks,o.pv with
 | _ :: _,_=>none
 | _,some _=>none
 | [],none=>qC (o.m.get l) fun st pend env params assign body=>match st,pend with
  | .busy,none=>match o.x with
   | .normal=>one (.bool true) (o.m.set l (.loop .ready none env params assign body))
   | x=>one (.bool false) (o.m.set l (.loop .done (some x) env params assign body))
  | _,_=>none
mutual
def Nn (lo:Nat):j5→List Nat
 | .ptr i _ | .slice i _ _ _ | .sliceU i _ _ _ | .map i=>bi (Nat.ble lo i) [i] []
 | .func _ a b=>BL lo a++BL lo b
 | .iface _ v=>Nn lo v
 | .agg l=>BL lo l
 | .tuple l=>BL lo l
 | _=>[]
def BL (lo:Nat):List j5→List Nat
 | []=>[]
 | v::l=>Nn lo v++BL lo l
end
inductive NB where
 | cells (rs:Nat) (rows:List (List j5))
 | map (es:List (j5×j5))
 | tail (p:Nat)
 | dead
 deriving Inhabited
def Eo (b:Blk):Option NB:=match b with
 | .cells rs n rows=>ob (rows.slice n 0) fun l=>some (.cells rs l)
 | .map es=>some (.map es)
 | .tail p=>some (.tail p)
 | .dead=>some .dead
 | _=>none
def JJ (lo:Nat):List (List j5)→List Nat
 | []=>[]
 | l::ls=>BL lo l++JJ lo ls
def Ze (lo:Nat):List (j5×j5)→List Nat
 | []=>[]
 | e::es=>Nn lo e.1++(Nn lo e.2++Ze lo es)
def Qa (lo:Nat):NB→List Nat
 | .cells _ rows=>JJ lo rows
 | .map es=>Ze lo es
 | .tail p=>bi (Nat.ble lo p) [p] []
 | .dead=>[]
def HV (n:Nat)(l:List (Nat×NB)):Bool:=List.rec false (fun x _ ih=>bi (Nat.beq x.1 n) true ih) l
def reach (m:Mem)(lo n:Nat):List Nat→List (Nat×NB)→Option (List (Nat×NB)):=
 Nat.rec (fun _ _=>none) (fun _ ih work seen=>List.rec (some seen.reverse) (fun w ws _=>
  bi (HV w seen) (ih ws seen) (ob (m.get w) fun b=>ob (Eo b) fun nb=>ih (Qa lo nb++ws) ((w,nb)::seen))) work) n
def placeOf (i:Nat)(l:List Nat):Nat→Option Nat:=List.rec (fun _=>none) (fun x _ ih k=>bi (Nat.beq x i) (some k) (ih (Nat.succ k))) l
mutual
def kQ (r:Nat→Option Nat):j5→Option j5
 | .ptr i o=>ob (r i) fun j=>some (.ptr j o)
 | .slice i o l c=>ob (r i) fun j=>some (.slice j o l c)
 | .sliceU i o l c=>ob (r i) fun j=>some (.sliceU j o l c)
 | .map i=>ob (r i) fun j=>some (.map j)
 | .func fn a b=>match fn with
  | .yield _=>none
  | fn=>ob (uh r a) fun x=>ob (uh r b) fun y=>some (.func fn x y)
 | .iface t v=>ob (kQ r v) fun x=>some (.iface t x)
 | .agg l=>ob (uh r l) fun x=>some (.agg x)
 | .tuple l=>ob (uh r l) fun x=>some (.tuple x)
 | .pan _=>none
 | v=>some v
def uh (r:Nat→Option Nat):List j5→Option (List j5)
 | []=>some []
 | v::l=>ob (kQ r v) fun x=>ob (uh r l) fun y=>some (x::y)
end
def oL (r:Nat→Option Nat):List (List j5)→Option (List (List j5))
 | []=>some []
 | l::ls=>ob (uh r l) fun x=>ob (oL r ls) fun y=>some (x::y)
def Jq (r:Nat→Option Nat):List (j5×j5)→Option (List (j5×j5))
 | []=>some []
 | e::es=>ob (kQ r e.1) fun x=>ob (kQ r e.2) fun y=>ob (Jq r es) fun z=>some ((x,y)::z)
def xI (r:Nat→Option Nat):NB→Option NB
 | .cells rs rows=>ob (oL r rows) fun x=>some (.cells rs x)
 | .map es=>ob (Jq r es) fun x=>some (.map x)
 | .tail p=>ob (r p) fun q=>some (.tail q)
 | .dead=>some .dead
def uV (r:Nat→Option Nat):List NB→Option (List NB)
 | []=>some []
 | p::l=>ob (xI r p) fun x=>ob (uV r l) fun y=>some (x::y)
structure CO where
 ids:List Nat
 vs:List j5
 bs:List NB
def Eh (lo:Nat)(ids:List Nat)(i:Nat):Option Nat:=bi (Nat.ble lo i) (placeOf i ids lo) (some i)
def gT (lo:Nat)(vs:List j5)(m:Mem):Option CO:=
 ob (reach m lo 100000 (BL lo vs) []) fun seen=>
  ob (uh (Eh lo (seen.map (·.1))) vs) fun xs=>ob (uV (Eh lo (seen.map (·.1))) (seen.map (·.2))) fun bs=>some ⟨seen.map (·.1),xs,bs⟩
def eD:NB→Blk
 | .cells rs rows=>.cells rs (len' rows) (T.ofList rows)
 | .map es=>.map es
 | .tail p=>.tail p
 | .dead=>.dead
def layAll (bs:List NB):Mem→Mem:=List.rec (fun m=>m) (fun b _ ih m=>ih (m.new (eD b))) bs
def zm:List (List j5)→List (List j5)→Bool
 | [],[]=>true
 | a::x,b::y=>bi (Ah (dH 100) a b) (zm x y) false
 | _,_=>false
def HY:List (j5×j5)→List (j5×j5)→Bool
 | [],[]=>true
 | a::x,b::y=>bi (dH 100 a.1 b.1) (bi (dH 100 a.2 b.2) (HY x y) false) false
 | _,_=>false
def bD:NB→NB→Bool
 | .cells r a,.cells s b=>bi (Nat.beq r s) (zm a b) false
 | .map a,.map b=>HY a b
 | .tail p,.tail q=>Nat.beq p q
 | .dead,.dead=>true
 | _,_=>false
def kR:List NB→List NB→Bool
 | [],[]=>true
 | a::x,b::y=>bi (bD a b) (kR x y) false
 | _,_=>false
structure Ans where
 v:j5
 bs:List NB
def Cc (lo:Nat)(r:VM):Option Ans:=ob (gT lo [r.v] r.m) fun c=>List.rec none (fun v _ _=>some ⟨v,c.bs⟩) c.vs
def Gc (lo:Nat)(l:List VM):Option Ans:=
 List.rec none (fun r rs ih=>ob (Cc lo r) fun a=>List.rec (some a) (fun _ _ _=>ob ih fun b=>bi (dH 100 a.v b.v) (bi (kR a.bs b.bs) (some a) none) none) rs) l
structure SFn where
 pure:Bool
 args:List (Option Nat)
 nslots:Nat
 results:List vI
 code:SC
 rcode:Option bF
structure Known where
 fns:FuncId→Option SFn
 base:Mem
 sum:FuncId→List j5→List NB→Option Ans
def C8 (cf:K8)(dcf:jP)(fuel:Nat)(f:SFn)(args:List j5)(m:Mem):vK:=
 ob (bZ f.args args (T.rep .undef f.nslots .e 0)) fun env=>bnd (f.code cf fuel none env m []) (leave dcf f.results)
structure RU where
 o:Out
 md:Option j5
def isRec (i:Inst):Bool:=match i.op,i.guard with
 | .e .recover,none=>true
 | _,_=>false
def Ce:List Inst→Bool
 | []=>false
 | i::l=>isRec i||Ce l
def Cg:List Inst→K8→List j5→T j5→Mem→Option j5→Option (List (EM×Option j5))
 | [],_,_,env,m,md=>some [(⟨env,m,none,[]⟩,md)]
 | i::l,cf,ls,env,m,md=>match isRec i with
  | true=>match md with
   | some x=>Cg l cf (x::ls) (trD i.dst x env) m none
   | none=>Cg l cf (.nilIface::ls) (trD i.dst .nilIface env) m none
  | false=>match i.op with
   | .p o=>ob (Jp i.guard (trP o) ls env) fun v=>Cg l cf (v::ls) (trD i.dst v env) m md
   | .r o=>ob (Ga i.guard (trR o) ls env m) fun v=>Cg l cf (v::ls) (trD i.dst v env) m md
   | _=>none
def dEv:bF→K8→Nat→T j5→Mem→Option j5→Option (List RU)
 | .seq a b,cf,fuel,env,m,md=>bnd (dEv a cf fuel env m md) fun r=>match r.o.x with
  | .normal=>match r.o.marks with
   | []=>dEv b cf fuel r.o.env r.o.m r.md
   | _=>none
  | _=>some [r]
 | .cond c a b,cf,fuel,env,m,md=>pK (trO c [] env) fun t=>bi t (dEv a cf fuel env m md) (dEv b cf fuel env m md)
 | .reg ops,cf,fuel,env,m,md=>match Ce ops with
  | true=>bnd (Cg ops cf [] env m md) fun r=>some [⟨⟨.normal,r.1.env,r.1.m,[],none⟩,r.2⟩]
  | false=>bnd (trC (.reg ops) cf fuel none env m []) fun o=>some [⟨o,md⟩]
 | c,cf,fuel,env,m,md=>bnd (trC c cf fuel none env m []) fun o=>some [⟨o,md⟩]
def JK (rs:List vI)(r:RU):Option (List (Mem×Option j5)):=match r.o.x,r.o.marks,r.o.pv with
 | .exit _,_,_=>none
 | _,[],none=>ob (results rs r.o.env r.o.m) fun _=>some [(r.o.m,r.md)]
 | _,_,_=>none
def aef (cf:K8)(fuel:Nat)(f:SFn)(args:List j5)(md:Option j5)(m:Mem):Option (List (Mem×Option j5)):=
 ob f.rcode fun c=>ob (bZ f.args args (T.rep .undef f.nslots .e 0)) fun env=>bnd (dEv c cf fuel env m md) (JK f.results)
def Mem.shut (m:Mem):Mem:=⟨m.t,m.next,m.next⟩
def Ch (K:Known)(cf:K8)(fuel:Nat):jP:=fun f args md m=>ob (K.fns f) fun sf=>aef cf fuel sf args md m
def Ci (K:Known)(cf:K8)(fuel:Nat)(f:FuncId)(sf:SFn)(args:List j5)(bs:List NB):Option Ans:=
 Option.rec (ob (C8 cf (Ch K cf fuel) fuel sf args (layAll bs K.base).shut) fun l=>Gc (layAll bs K.base).next l) (fun a=>some a) (K.sum f args bs)
def fC (g:Nat)(ids:List Nat)(next i:Nat):Option Nat:=
 bi (Nat.blt i g) (some i) (bi (Nat.blt (Nat.sub i g) (len' ids)) (Ae (Nat.sub i g) ids) (some (Nat.add next (Nat.sub (Nat.sub i g) (len' ids)))))
def qD (K:Known)(cf:K8)(fuel:Nat)(f:FuncId)(sf:SFn)(args:List j5)(m:Mem):vK:=
 ob (gT K.base.next args m) fun c=>ob (Ci K cf fuel f sf c.vs c.bs) fun a=>
  ob (kQ (fC K.base.next c.ids m.next) a.v) fun v=>ob (uV (fC K.base.next c.ids m.next) a.bs) fun bs=>one v (layAll bs m)
def Ep (cf:K8)(fuel l:Nat)(args:List j5)(m:Mem):vK:=
 bi (Nat.blt l m.lim) none (qC (m.get l) fun st pend env params assign body=>match st,pend with
  | .ready,none=>ob (bZ params args env) fun env1=>bnd (trC assign cf fuel (some l) env1 m []) fun o=>match o.x,o.marks with
   | .normal,[]=>qC (o.m.get l) fun st2 pend2 env2 params2 assign2 body2=>match st2,pend2 with
    | .ready,none=>bnd (trC body cf fuel (some l) o.env (o.m.set l (.loop .busy none env2 params2 assign2 body2)) []) (roundEnd l)
    | _,_=>none
   | _,_=>none
  | _,_=>none)
def D6 (K:Known)(fuel n:Nat):K8:=
 Nat.rec (fun _ _ _=>none) (fun _ ih fn args m=>match fn with
  | .func f=>ob (K.fns f) fun sf=>bi sf.pure (qD K ih fuel f sf args m) (C8 ih (Ch K ih fuel) fuel sf args m)
  | .yield l=>Ep ih fuel l args m
  | _=>none) n
mutual
def ofValue:Value→Option j5
 | .bool b=>some (.bool b)
 | .int k n=>some (.int k n)
 | .string s=>some (.str s.data.toList)
 | .pointer none=>some .nilPtr
 | .slice none 0 0=>some .nilSlice
 | .map none=>some .nilMap
 | .func (.func f) ⟨[]⟩ ⟨[]⟩=>some (.func (.func f) [] [])
 | .nilFunc=>some .nilFunc
 | .nilIface=>some .nilIface
 | .agg ⟨l⟩=>match ofValues l with
  | some x=>some (.agg x)
  | none=>none
 | .tuple ⟨[]⟩=>some (.tuple [])
 | _=>none
def ofValues:List Value→Option (List j5)
 | []=>some []
 | v::l=>match ofValue v,ofValues l with
  | some x,some y=>some (x::y)
  | _,_=>none
end
section
variable (P:Program)
def jM (t:TypeId):Option Nat:=(P.info? t).map (·.size)
def iD (t:TypeId):Option Nat:=(P.info? t).map (·.bytes)
def Ei (t:TypeId):Option Bool:=match P.underlying t with
 | some (.struct _) | some (.array _ _)=>some true
 | some _=>some false
 | none=>none
def partT (t:TypeId):Option (Option Nat):=match Ei P t,jM P t with
 | some true,some n=>some (some n)
 | some false,some _=>some none
 | _,_=>none
def sD (t:TypeId):Option (List j5):=match (P.info? t).bind (·.zero) with
 | some z=>match ofValue z with
  | some a=>some a.cells
  | none=>none
 | none=>none
def zeroV (t:TypeId):Option j5:=match (P.info? t).bind (·.zero) with
 | some z=>ofValue z
 | none=>none
def mQ (f:TypeId→Option (List PK)):List Field→Nat→Option (List PK)
 | [],_=>some []
 | fd::l,off=>if fd.name≠ "_"∧fd.offset=off then match f fd.type with
   | some ks=>match mQ f l (off+ks.length) with
    | some r=>some (ks++r)
    | none=>none
   | none=>none
  else none
def fQ:Nat→TypeId→Option (List PK)
 | 0,_=>none
 | d+1,t=>match P.underlying t with
  | some .bool=>if jM P t=some 1 then some [.b] else none
  | some (.int _)=>if jM P t=some 1 then some [.i] else none
  | some .string=>if jM P t=some 1 then some [.s] else none
  | some (.struct fs)=>match mQ (fQ d) fs.toList 0 with
   | some ks=>if P.stoodInHeld t=false∧jM P t=some ks.length then some ks else none
   | none=>none
  | _=>none
def eqT (cst:Bool)(t:TypeId):Option EqK:=match P.underlying t with
 | some .bool=>some (.prim .b)
 | some (.int _)=>some (.prim .i)
 | some .string=>some (.prim .s)
 | some (.struct _)=>match fQ P 10 t with
  | some k=>if P.eqGuardType P.depth t=false then some (.flat k) else none
  | none=>none
 | some (.pointer _)=>some .ptr
 | some (.slice _)=>some .slice
 | some (.map _ _)=>some .map
 | some (.func ..)=>some .func
 | some (.interface _)=>if cst then some .iface else none
 | _=>none
def aeg (t:TypeId):Option EqK:=match P.underlying t with
 | some (.array n e)=>match P.underlying e with
  | some (.int _)=>if jM P e=some 1∧P.eqGuardType P.depth t=false then some (.flat (List.replicate n .i)) else none
  | _=>none
 | _=>none
def Zf (cst:Bool)(t:TypeId):Option EqK:=match eqT P cst t with
 | some k=>some k
 | none=>aeg P t
def Qb (t:TypeId):Option (List j5):=match sD P t,jM P t with
 | some z,some k=>if z.length=k then some z else none
 | _,_=>none
def Gd (t:TypeId):Option EqK:=match eqT P false t with
 | some (.prim j)=>some (.prim j)
 | some (.flat ks)=>some (.flat ks)
 | _=>none
end
def idxOf (t:Nat):List Nat→Nat→Option Nat
 | [],_=>none
 | x::l,i=>bif Nat.beq x t then some i else idxOf t l (i+1)
def jr (t:Nat):List (Option Nat)→Nat→Option Nat
 | [],_=>none
 | some x::l,i=>bif Nat.beq x t then some i else jr t l (i+1)
 | none::l,i=>jr t l (i+1)
section
variable (P:Program)(slots:List Nat)(done:List (Option Nat))
def bK:Operand→Option Opd
 | .tmp t=>match jr t done 0 with
  | some k=>some (.loc k)
  | none=>match idxOf t slots 0 with
   | some j=>some (.slot j)
   | none=>none
 | .const v=>match ofValue v with
  | some a=>some (.con a)
  | none=>none
 | .global g=>if g<P.globals.size then some (.con (.ptr g 0)) else none
 | .func f=>some (.con (.func (.func f) [] []))
def kS:List Operand→Option (List Opd)
 | []=>some []
 | x::l=>match bK P slots done x,kS l with
  | some a,some b=>some (a::b)
  | _,_=>none
def cOpt:Option Operand→Option (Option Opd)
 | none=>some none
 | some x=>match bK P slots done x with
  | some a=>some (some a)
  | none=>none
def xM:Operand→Bool
 | .const _=>true
 | _=>false
def uj (place:Nat→Option (Nat×Nat)):List (Nat×Operand)→Option (List (Nat×Nat×Opd))
 | []=>some []
 | p::l=>match place p.1,bK P slots done p.2,uj place l with
  | some (o,s),some x,some r=>some ((o,s,x)::r)
  | _,_,_=>none
def placesOf:List Field→Option (List (Nat×Nat))
 | []=>some []
 | f::l=>match jM P f.type,placesOf l with
  | some s,some r=>some ((f.offset,s)::r)
  | _,_=>none
def vQ (t:TypeId)(parts:List (Nat×Operand)):Option AOp:=
 match sD P t,P.underlying t with
 | some zero,some (.struct fields)=>match placesOf P fields.toList with
  | some pl=>match uj P slots done (fun i=>pl[i]?) parts with
   | some ps=>some (.p (.build zero ps))
   | none=>none
  | none=>none
 | some zero,some (.array _ elem)=>match jM P elem with
  | some s=>match uj P slots done (fun i=>some (i*s,s)) parts with
   | some ps=>some (.p (.build zero ps))
   | none=>none
  | none=>none
 | _,_=>none
def qE (b:Builtin)(ts:List TypeId)(args:List Operand):Option AOp:=do
 match b,ts,args with
 | .len,[t],[x]=>match ← P.underlying t with
  | .string=>do pure (.p (.lenS (← bK P slots done x)))
  | .slice _=>do pure (.p (.len (← bK P slots done x)))
  | .array n _=>pure (.p (.mov (.con (.int .i64 n))))
  | .map _ _=>do pure (.r (.lenM (← bK P slots done x)))
  | _=>none
 | .cap,[t],[x]=>match ← P.underlying t with
  | .slice _=>do pure (.p (.cap (← bK P slots done x)))
  | _=>none
 | .append,[t,u],[s,x]=>match ← P.underlying t with
  | .slice e=>do
   let d ← P.underlying u
   let zs:=match d with | .int _=>true | _=>false
   pure (.e (.app (← jM P e) zs (← Qb P e) (← iD P e) (← bK P slots done s) (← bK P slots done x)))
  | _=>none
 | .copy,[t,_],[d,s]=>match ← P.underlying t with
  | .slice e=>do pure (.e (.copy (← jM P e) (← bK P slots done d) (← bK P slots done s)))
  | _=>none
 | .clear,[t],[x]=>match ← P.underlying t with
  | .slice e=>do pure (.e (.clear (← sD P e) (← bK P slots done x)))
  | _=>none
 | .max,_,x::xs=>do pure (.p (.mm true (← bK P slots done x) (← kS P slots done xs)))
 | .min,_,x::xs=>do pure (.p (.mm false (← bK P slots done x) (← kS P slots done xs)))
 | .recover,[],[]=>pure (.e .recover)
 | _,_,_=>none
def cOp (o:Op):Option AOp:=do
 let r:=bK P slots done
 match o with
 | .move x | .assign x=>pure (.p (.mov (← r x)))
 | .pick c a b=>pure (.p (.pick (← r c) (← r a) (← r b)))
 | .alloc t=>pure (.a (.alloc (← sD P t)))
 | .box _ x=>pure (.a (.box (← r x)))
 | .build t parts=>vQ P slots done t parts.toList
 | .buildSlice t len parts=>match ← P.underlying t with
  | .slice e=>do
   let es ← jM P e
   let ps ← uj P slots done (fun i=>some (i*es,es)) parts.toList
   if len*es≤16777216 then pure (.a (.buildSlice es len (← sD P e) ps)) else none
  | _=>none
 | .load t a=>pure (.r (.load (← partT P t) (← r a)))
 | .store t a x=>pure (.e (.store (← jM P t) (← r a) (← r x)))
 | .nilCheck x=>pure (.p (.nilCheck (← r x)))
 | .binOp op t x y _=>match op with
  | .eql | .neq=>do
   let k ← Zf P (xM x||xM y) t
   let neg:=match op with | .neq=>true | _=>false
   match k with
   | .prim .i=>pure (.p (.ib op (← r x) (← r y)))
   | .prim .s=>pure (.p (.ib op (← r x) (← r y)))
   | k=>pure (.p (.eq neg k (← r x) (← r y)))
  | _=>pure (.p (.ib op (← r x) (← r y)))
 | .unOp op _ x=>match op with
  | .not=>do pure (.p (.not (← r x)))
  | .neg=>do pure (.p (.neg (← r x)))
  | _=>none
 | .convert s d x=>match ← P.underlying s,← P.underlying d with
  | .int _,.int k=>do pure (.p (.conv k (← r x)))
  | .string,.slice e=>match ← P.underlying e with
   | .int .u8=>do pure (.a (.strBytes (← r x)))
   | _=>none
  | .slice e,.string=>match ← P.underlying e with
   | .int .u8=>do pure (.r (.bytesStr (← r x)))
   | _=>none
  | _,_=>none
 | .makeInterface t x=>match ← P.underlying t with
  | .interface _=>none
  | _=>do pure (.p (.mkIface t (← r x)))
 | .makeFunc fn a b=>match fn with
  | .func f=>do pure (.p (.mkFunc (.func f) (← kS P slots done a.toList) (← kS P slots done b.toList)))
  | _=>none
 | .makeMap t res=>match res with
  | none=>pure (.a .mkMap)
  | some (.const (.int _ _))=>match P.underlying t with
   | some (.map _ _)=>pure (.a .mkMap)
   | _=>none
  | _=>none
 | .makeSlice t l c=>match ← P.underlying t with
  | .slice e=>do pure (.a (.mkSlice (← jM P e) (← iD P e) (← Qb P e) (← r l) (← r c)))
  | _=>none
 | .slice t x lo hi none=>match ← P.underlying t with
  | .string=>do pure (.p (.slStr (← r x) (← cOpt P slots done lo) (← cOpt P slots done hi)))
  | .slice e=>do pure (.a (.sl (← jM P e) (← r x) (← cOpt P slots done lo) (← cOpt P slots done hi)))
  | .array n e=>do pure (.p (.slArr (← jM P e) n (← r x) (← cOpt P slots done lo) (← cOpt P slots done hi)))
  | _=>none
 | .fieldAddr s x f=>match ← P.underlying s with
  | .struct fs=>do
   let fd ← fs[f]?
   let sz ← jM P fd.type
   if sz=0 then none else pure (.p (.fAddr fd.offset (← r x)))
  | _=>none
 | .field s x f=>match ← P.underlying s with
  | .struct fs=>do
   let fd ← fs[f]?
   pure (.p (.fld fd.offset (← partT P fd.type) (← r x)))
  | _=>none
 | .indexAddr t x i=>match ← P.underlying t with
  | .slice e=>do pure (.p (.iAddr (← jM P e) (← r x) (← r i)))
  | .array n e=>do pure (.p (.iAddrArr (← jM P e) n (← r x) (← r i)))
  | _=>none
 | .index t x i=>match ← P.underlying t with
  | .string=>do pure (.p (.iStr (← r x) (← r i)))
  | .array n e=>do pure (.p (.iArr (← jM P e) n (← partT P e) (← r x) (← r i)))
  | _=>none
 | .lookup t x k ok=>match ← P.underlying t with
  | .map kt e=>do pure (.r (.look (← Gd P kt) (← zeroV P e) ok (← r x) (← r k)))
  | _=>none
 | .mapUpdate t m k x | .insert t m k x=>match ← P.underlying t with
  | .map kt _=>do pure (.e (.mapSet (← Gd P kt) (← r m) (← r k) (← r x)))
  | _=>none
 | .range t x=>match ← P.underlying t with
  | .map _ _=>do pure (.e (.range (← r x)))
  | _=>none
 | .next it false=>pure (.e (.next (← r it)))
 | .entry it=>pure (.r (.entry (← r it)))
 | .extract x i=>pure (.p (.ext (← r x) i))
 | .typeAssert x _ t ok=>match ← P.underlying t with
  | .interface _=>none
  | _=>do pure (.p (.assert t (← zeroV P t) ok (← r x)))
 | .panic x=>pure (.e (.panic (← r x)))
 | .defer c=>match c.callee with
  | .value f=>do pure (.e (.defer (← r f) (← kS P slots done c.args.toList)))
  | _=>none
 | .call c=>match c.callee with
  | .builtin b=>qE P slots done b c.argTypes.toList c.args.toList
  | .value (.func f)=>do
   let fn ← P.funcs[f]?
   if fn.body.isSome&&fn.name != "runtime.NumGoroutine" then pure (.e (.call f (← kS P slots done c.args.toList))) else none
  | .value f=>do pure (.e (.callv (← r f) (← kS P slots done c.args.toList)))
  | _=>none
 | _=>none
def Qc:Option Tmp→Option Nat
 | none=>none
 | some t=>idxOf t slots 0
def vR (o:Op):AOp:=match cOp P slots done o with
 | some a=>a
 | none=>.e .bad
def JL (ops:Array Oper)(i:Nat):Option (Inst×Option Nat):=do
 let o ← ops[i]?
 let a:=vR P slots done o.op
 let g ← match o.guard with
  | none=>pure none
  | some (j,w)=>do
   let og ← ops[j]?
   let d ← og.dst
   let k ← jr d done 0
   pure (some (Opd.loc k,w))
 pure (⟨a,Qc slots o.dst,g⟩,o.dst)
end
def jQ (P:Program)(slots:List Nat)(ops:Array Oper):List (Option Nat)→List Nat→Option (List Inst)
 | _,[]=>some []
 | done,i::rest=>match JL P slots done ops i with
  | some (x,d)=>match jQ P slots ops (d::done) rest with
   | some l=>some (x::l)
   | none=>none
  | none=>none
def bitsOf (e:Array Edge)(acc:List Nat):Nat:=
 e.toList.foldl (fun s x=>if Region.binds .any x then s ||| (1 <<< x.on) ||| (acc.getD x.on 0) else s) 0
def masks (ops:List Oper):List Nat:=ops.foldl (fun acc o=>acc ++ [bitsOf o.after acc]) []
def mOf (ms:List Nat)(i j:Nat):Bool:=Nat.testBit (ms.getD i 0) j
def afm:Op→Bool
 | .store .. | .mapUpdate .. | .insert .. | .range .. | .next .. | .mapEntry .. | .entryStore .. | .panic _ | .defer _ | .typeAssert ..=>true
 | .call {callee:=.builtin b,..}=>match b with
  | .append | .copy | .clear | .delete=>true
  | _=>false
 | .call _=>true
 | _=>false
def HZ (ops:Array Oper)(i:Nat):Bool:=
 match ops[i]? with
 | some o=>afm o.op
 | none=>false
def canon (eff:Nat→Bool)(ms:List Nat)(n:Nat):List Nat:=
 let effs:=(List.range n).filter eff
 let step (acc:List Nat) (e:Nat):List Nat:=acc++(List.range n).filter (fun i=>!acc.contains i&&mOf ms e i) ++ [e]
 let acc:=effs.foldl (fun acc e=>if acc.contains e then acc else step acc e) []
 acc++(List.range n).filter (fun i=>!acc.contains i)
def isE (x:Inst):Bool:=match x.op with
 | .e _=>true
 | _=>false
def isA (x:Inst):Bool:=match x.op with
 | .a _=>true
 | _=>false
def isR (x:Inst):Bool:=match x.op with
 | .r _=>true
 | _=>false
def afn (ms:List Nat)(i:Nat)(x:Inst)(effs:List Nat)(nal:Nat):Nat:=
 if isR x then (effs.takeWhile fun e=>!mOf ms i e).length else nal
def numbered (ms:List Nat):List (Nat×Inst)→List Nat→Nat→List (Nat×Inst)
 | [],_,_=>[]
 | (i,x)::rest,effs,nal=>(afn ms i x effs nal,x)::numbered ms rest (if isE x then i::effs else effs) (if isA x then nal+1 else nal)
def vS (ops:Array Oper)(o:Oper):List Nat:=
 (o.op.operands.toList.filterMap fun | .tmp t=>some t | _=>none) ++
 (match o.guard with
  | some (g,_)=>((ops[g]?).bind (·.dst)).toList
  | none=>[])
def JM:List Nat→Bool
 | []=>true
 | x::l=>!l.contains x&&JM l
def Er:List Inst→Nat
 | []=>0
 | x::l=>(if isA x then 1 else 0)+Er l
def ND (ms:List Nat)(i:Nat)(before:List (Nat×Inst)):Opd→Bool
 | .loc k=>match before[k]? with
  | some y=>mOf ms i y.1
  | none=>false
 | .slot j=>before.all fun y=>y.2.dst != some j
 | .con _=>true
def um (ms:List Nat)(ops:Array Oper)(i:Nat)(x:Inst)(before:List (Nat×Inst)):Bool:=
 (match x.op with
  | .e _=>before.all fun y=>mOf ms i y.1
  | _=>true) &&
 (match ops[i]? with
  | some o=>(o.after.toList.all fun e=>!Region.binds .any e||before.any fun y=>y.1==e.on) &&
   ((vS ops o).all fun t=>(List.range ops.size).all fun q=>q==i||(match ops[q]? with
    | some oq=>oq.dst != some t
    | none=>true)||mOf ms i q||mOf ms q i)
  | none=>false) &&
 ((Jv x.op).all fun y=>ND ms i before y) &&
 (match x.guard with
  | some (y,_)=>ND ms i before y
  | none=>true)
def qF (ms:List Nat)(ops:Array Oper):List (Nat×Inst)→List (Nat×Inst)→Bool
 | [],_=>true
 | y::rest,before=>um ms ops y.1 y.2 before&&qF ms ops rest (y::before)
def Qd (ms:List Nat)(ops:Array Oper)(ord:List Nat)(insts:List Inst):Bool:=
 JM ord&&(ord.all fun i=>Nat.blt i ops.size)&&((List.range ops.size).all fun i=>ord.contains i)&&JM (ops.toList.filterMap (·.dst))&&qF ms ops (ord.zip insts) []
def Cj (P:Program)(slots:List Nat)(ops:Array Oper):Option bF:=
 match jQ P slots ops [] (canon (HZ ops) (masks ops.toList) ops.size) with
 | none=>none
 | some insts=>
  if Qd (masks ops.toList) ops (canon (HZ ops) (masks ops.toList) ops.size) insts then
   some (.dreg (Er insts) (numbered (masks ops.toList) ((canon (HZ ops) (masks ops.toList) ops.size).zip insts) [] 0))
  else none
def aI (P:Program)(slots:List Nat):Code→Option bF
 | .skip=>some .skip
 | .region _ ops false=>match jQ P slots ops [] (List.range ops.size) with
  | some l=>some (.reg l)
  | none=>none
 | .region _ ops true=>Cj P slots ops
 | .seq a b=>match aI P slots a,aI P slots b with
  | some x,some y=>some (.seq x y)
  | _,_=>none
 | .cond c a b=>match bK P slots [] c,aI P slots a,aI P slots b with
  | some z,some x,some y=>some (.cond z x y)
  | _,_,_=>none
 | .block id a=>match aI P slots a with
  | some x=>some (.block id x)
  | none=>none
 | .loop a=>match aI P slots a with
  | some x=>some (.loop x)
  | none=>none
 | .exit id=>some (.exit id)
 | .ret=>some .ret
 | .rangeFunc f ps a b=>match bK P slots [] f,aI P slots a,aI P slots b with
  | some z,some x,some y=>some (.rangeFunc z (ps.toList.map fun t=>idxOf t slots 0) x y)
  | _,_,_=>none
 | _=>none
def tmpsIn (nt:Nat):Code→Bool
 | .region _ ops _=>ops.toList.all fun o=>match o.dst with
  | some t=>Nat.blt t nt
  | none=>true
 | .seq a b=>tmpsIn nt a&&tmpsIn nt b
 | .cond _ a b=>tmpsIn nt a&&tmpsIn nt b
 | .block _ a=>tmpsIn nt a
 | .loop a=>tmpsIn nt a
 | .rangeFunc _ _ a b=>tmpsIn nt a&&tmpsIn nt b
 | _=>true
def Jr (P:Program)(slots:List Nat):List ResultVar→Option (List vI)
 | []=>some []
 | .tmp t::l=>match idxOf t slots 0,Jr P slots l with
  | some j,some r=>some (.tmp j::r)
  | _,_=>none
 | .cell t ty::l=>match idxOf t slots 0,partT P ty,Jr P slots l with
  | some j,some s,some r=>some (.cell j s::r)
  | _,_,_=>none
def cFn (P:Program)(slots:List Nat)(f:FuncId):Option AFn:=
 match P.funcs[f]? with
 | none=>none
 | some fn=>match fn.body with
  | none=>none
  | some c=>match aI P slots c,Jr P slots fn.results.toList with
   | some b,some r=>
    if tmpsIn fn.ntmps c&&(slots.all fun t=>Nat.blt t fn.ntmps)&&Nat.blt slots.length 1152921504606846976&&fn.name != "runtime.NumGoroutine" then
     some ⟨fn.params.size+fn.nfree,(List.range (fn.params.size+fn.nfree)).map fun t=>idxOf t slots 0,slots.length,r,b⟩
    else none
   | _,_=>none
section
variable {α β γ:Type}
@[simp] theorem O0 (a:α)(k:α→Option β):ob (some a) k=k a:=rfl
@[simp] theorem afo (k:α→Option β):ob none k=none:=rfl
theorem J6 {o:Option α}{k:α→Option β}{b:β}(h:ob o k=some b):∃a,o=some a∧k a=some b:=by
 cases o with
 | none=>simp at h
 | some a=>exact⟨a,rfl,h⟩
@[simp] theorem aJ (x y:α):bi true x y=x:=rfl
@[simp] theorem aY (x y:α):bi false x y=y:=rfl
theorem L6 {b:Bool}{x:Option α}{a:α}(h:bi b x none=some a):b=true∧x=some a:=by
 cases b with
 | true=>exact⟨rfl,h⟩
 | false=>simp at h
theorem vT {b:Bool}{x:Option α}{a:α}(h:bi b none x=some a):b=false∧x=some a:=by
 cases b with
 | true=>simp at h
 | false=>exact⟨rfl,h⟩
end
namespace T
variable {α:Type}
@[simp] theorem as9 (i:Nat):(T.e:T α).get i=none:=rfl
@[simp] theorem aeh (l:T α)(x:α)(r:T α):(T.nd l x r).get 0=some x:=rfl
theorem dw (l:T α)(x:α)(r:T α)(i:Nat):(T.nd l x r).get (i+1)=if i%2=0 then l.get (i / 2) else r.get (i / 2):=by
 show (Nat.rec (l.get (Nat.div i 2)) (fun _ _=>r.get (Nat.div i 2)) (Nat.mod i 2):Option α)=_
 have h:Nat.mod i 2=i%2:=rfl
 rcases avZ i with h0 | h1
 ·rw [h,h0];rfl
 ·rw [h,h1];rfl
@[simp] theorem afp (i:Nat)(x:α):(T.e:T α).put i x=.nd .e x .e:=rfl
@[simp] theorem Gf (l:T α)(y:α)(r:T α)(x:α):(T.nd l y r).put 0 x=.nd l x r:=rfl
theorem aC (l:T α)(y:α)(r:T α)(i:Nat)(x:α):(T.nd l y r).put (i+1) x=if i%2=0 then .nd (l.put (i / 2) x) y r else .nd l y (r.put (i / 2) x):=by
 show (Nat.rec (T.nd (l.put (Nat.div i 2) x) y r) (fun _ _=>T.nd l y (r.put (Nat.div i 2) x)) (Nat.mod i 2):T α)=_
 have h:Nat.mod i 2=i%2:=rfl
 rcases avZ i with h0 | h1
 ·rw [h,h0];rfl
 ·rw [h,h1];rfl
inductive Ok:T α→Nat→Prop
 | e:Ok .e 0
 | nd {l r:T α} {x:α} {n:Nat} (hl:Ok l ((n+1) / 2)) (hr:Ok r (n / 2)):Ok (.nd l x r) (n+1)
theorem Ok.get {t:T α}{n:Nat}(h:Ok t n):∀i,(∃x,t.get i=some x)↔i<n:=by
 induction h with
 | e=>intro i;simp
 | @nd l r x n hl hr ihl ihr=>
  intro i
  cases i with
  | zero=>simp
  | succ i=>
   rw [dw]
   split
   ·rw [ihl];omega
   ·rw [ihr];omega
theorem Ok.put {t:T α}{n:Nat}(h:Ok t n):∀i (x:α),i<n→Ok (t.put i x) n:=by
 induction h with
 | e=>intro i x hi;omega
 | @nd l r y n hl hr ihl ihr=>
  intro i x hi
  cases i with
  | zero=>exact .nd hl hr
  | succ i=>
   rw [aC]
   split
   ·exact .nd (ihl _ _ (by omega)) hr
   ·exact .nd hl (ihr _ _ (by omega))
theorem Ok.push {t:T α}{n:Nat}(h:Ok t n):∀(x:α),Ok (t.put n x) (n+1):=by
 induction h with
 | e=>intro x;exact .nd .e .e
 | @nd l r y n hl hr ihl ihr=>
  intro x
  rw [aC]
  split
  ·rename_i h0
   refine .nd ?_ ?_
   ·have:=ihl x
    rw [show (n+1) / 2=n / 2 from by omega] at this
    rw [show (n+1+1) / 2=n / 2+1 from by omega];exact this
   ·rw [show (n+1) / 2=n / 2 from by omega];exact hr
  ·rename_i h0
   refine .nd ?_ ?_
   ·rw [show (n+1+1) / 2=(n+1) / 2 from by omega];exact hl
   ·have:=ihr x
    rw [show (n+1) / 2=n / 2+1 from by omega];exact this
theorem aQ {t:T α}{n:Nat}(h:Ok t n):∀i (x:α),i≤n→(t.put i x).get i=some x:=by
 induction h with
 | e=>intro i x hi;obtain rfl:i=0:=by omega
      rfl
 | @nd l r y n hl hr ihl ihr=>
  intro i x hi
  cases i with
  | zero=>rfl
  | succ i=>
   rw [aC]
   split
   ·rename_i h0;rw [dw,if_pos h0];exact ihl _ _ (by omega)
   ·rename_i h0;rw [dw,if_neg h0];exact ihr _ _ (by omega)
theorem bL {t:T α}{n:Nat}(h:Ok t n):∀i j (x:α),i≤n→i≠j→(t.put i x).get j=t.get j:=by
 induction h with
 | e=>
  intro i j x hi hj
  obtain rfl:i=0:=by omega
  cases j with
  | zero=>omega
  | succ j=>rw [afp,dw];simp
 | @nd l r y n hl hr ihl ihr=>
  intro i j x hi hij
  cases i with
  | zero=>
   cases j with
   | zero=>omega
   | succ j=>rw [Gf,dw,dw]
  | succ i=>
   rw [aC]
   cases j with
   | zero=>split<;>rfl
   | succ j=>
    split
    ·rename_i h0
     rw [dw,dw]
     split
     ·exact ihl _ _ _ (by omega) (by omega)
     ·rfl
    ·rename_i h0
     rw [dw,dw]
     split
     ·rfl
     ·exact ihr _ _ _ (by omega) (by omega)
theorem mR (x:α)(l:List α)(t:T α)(i:Nat):kM (x::l) t i=kM l (t.put i x) (i+1):=rfl
theorem Ai (l:List α):∀(t:T α) (i:Nat),Ok t i→Ok (kM l t i) (i+l.length):=by
 induction l with
 | nil=>intro t i h;exact h
 | cons x l ih=>intro t i h;rw [mR,awp,show i+(l.length+1)=i+1+l.length from by omega];exact ih _ _ (h.push x)
theorem xO (l:List α):∀(t:T α) (i:Nat),Ok t i→∀j,(kM l t i).get j=if j<i then t.get j else l[j-i]?:=by
 induction l with
 | nil=>
  intro t i h j
  show t.get j=_
  split
  ·rfl
  ·rename_i hj
   cases hg:t.get j with
   | none=>simp
   | some x=>exact absurd ((h.get j).1 ⟨x,hg⟩) hj
 | cons x l ih=>
  intro t i h j
  rw [mR,ih _ _ (h.push x)]
  by_cases h1:j<i
  ·rw [if_pos (by omega),if_pos h1,bL h _ _ _ (D5 _) (by omega)]
  ·by_cases h2:j=i
   ·subst h2;rw [if_pos (by omega),aQ h _ _ (D5 _)];simp
   ·rw [if_neg (by omega),if_neg h1,show j-i=(j-(i+1))+1 from by omega];simp
theorem aS (l:List α)(j:Nat):(ofList l).get j=l[j]?:=by
 have:=xO l .e 0 .e j
 simpa [ofList] using this
theorem iJ (l:List α):Ok (ofList l) l.length:=by
 have:=Ai l .e 0 .e
 simpa [ofList] using this
theorem Aj (x:α)(n:Nat)(t:T α)(i:Nat):rep x (n+1) t i=rep x n (t.put i x) (i+1):=rfl
theorem Qe (x:α)(n:Nat):∀(t:T α) (i:Nat),Ok t i→Ok (rep x n t i) (i+n):=by
 induction n with
 | zero=>intro t i h;exact h
 | succ n ih=>intro t i h;rw [Aj,show i+(n+1)=i+1+n from by omega];exact ih _ _ (h.push x)
theorem JN (x:α)(n:Nat):∀(t:T α) (i:Nat),Ok t i→∀j,(rep x n t i).get j=if j<i then t.get j else if j<i+n then some x else none:=by
 induction n with
 | zero=>
  intro t i h j
  show t.get j=_
  split
  ·rfl
  ·rename_i hj
   rw [if_neg (by omega)]
   cases hg:t.get j with
   | none=>rfl
   | some y=>exact absurd ((h.get j).1 ⟨y,hg⟩) hj
 | succ n ih=>
  intro t i h j
  rw [Aj,ih _ _ (h.push x)]
  by_cases h1:j<i
  ·rw [if_pos (by omega),if_pos h1,bL h _ _ _ (D5 _) (by omega)]
  ·by_cases h2:j=i
   ·subst h2;rw [if_pos (by omega),aQ h _ _ (D5 _),if_neg h1,if_pos (by omega)]
   ·rw [if_neg (by omega),if_neg h1]
    by_cases h3:j<i+1+n
    ·rw [if_pos h3,if_pos (by omega)]
    ·rw [if_neg h3,if_neg (by omega)]
theorem zn (t:T α)(i:Nat):t.slice 0 i=some []:=rfl
theorem zo (t:T α)(n i:Nat):t.slice (n+1) i=ob (t.get i) fun x=>ob (t.slice n (i+1)) fun xs=>some (x::xs):=rfl
theorem Ia (t:T α)(n:Nat):∀i l,t.slice n i=some l→l.length=n∧∀j,j<n→t.get (i+j)=l[j]?:=by
 induction n with
 | zero=>intro i l h;rw [zn] at h;cases h;simp
 | succ n ih=>
  intro i l h
  rw [zo] at h
  obtain⟨x,hx,h⟩:=J6 h
  obtain⟨xs,hxs,h⟩:=J6 h
  cases h
  obtain⟨hl,hg⟩:=ih _ _ hxs
  refine⟨by simp [hl],fun j hj=>?_⟩
  cases j with
  | zero=>simpa using hx
  | succ j=>rw [show i+(j+1)=i+1+j from by omega,hg j (by omega)];simp
end T
section
variable {α:Type}
@[simp] theorem Q5 (l:List α):len' l=l.length:=by
 induction l with
 | nil=>rfl
 | cons x l ih=>show Nat.succ (len' l)=_;rw [ih];rfl
@[simp] theorem ak (l m:List α):jl l m=l++m:=by
 induction l with
 | nil=>rfl
 | cons x l ih=>show x::jl l m=_;rw [ih];rfl
@[simp] theorem eO (n:Nat):∀l:List α,jk n l=l.drop n:=by
 induction n with
 | zero=>intro l;rfl
 | succ n ih=>
  intro l
  cases l with
  | nil=>rfl
  | cons x l=>exact ih l
@[simp] theorem jv (n:Nat):∀l:List α,Ae n l=l[n]?:=by
 induction n with
 | zero=>intro l;cases l<;>rfl
 | succ n ih=>
  intro l
  cases l with
  | nil=>rfl
  | cons x l=>show Ae n l=_;rw [ih];rfl
@[simp] theorem Qf (n:Nat):∀l:List j5,nth n l=l[n]?.getD .undef:=by
 induction n with
 | zero=>intro l;cases l<;>rfl
 | succ n ih=>
  intro l
  cases l with
  | nil=>rfl
  | cons x l=>show nth n l=_;rw [ih];rfl
theorem jd (n:Nat):∀(l r:List α),takeN n l=some r→r=l.take n∧n≤l.length:=by
 induction n with
 | zero=>intro l r h;cases h;simp
 | succ n ih=>
  intro l r h
  cases l with
  | nil=>cases h
  | cons x l=>
   change ob (takeN n l) (fun r=>some (x::r))=some r at h
   obtain⟨r',hr,h⟩:=J6 h
   cases h
   obtain⟨h1,h2⟩:=ih _ _ hr
   exact⟨by simp [h1],by simp;omega⟩
theorem dQ (n:Nat):∀(l:List α),n≤l.length→takeN n l=some (l.take n):=by
 induction n with
 | zero=>intro l _;rfl
 | succ n ih=>
  intro l h
  cases l with
  | nil=>simp at h
  | cons x l=>
   change ob (takeN n l) (fun r=>some (x::r))=_
   rw [ih l (by simpa using h)];rfl
theorem jR (n:Nat)(vs:List α):∀(l:List α),n≤l.length→mM n vs l=l.take n++(vs++l.drop (n+vs.length)):=by
 induction n with
 | zero=>intro l _;show jl vs (jk (len' vs) l)=_;simp
 | succ n ih=>
  intro l h
  cases l with
  | nil=>simp at h
  | cons x l=>
   show x::mM n vs l=_
   rw [ih l (by simpa using h),show n+1+vs.length=(n+vs.length)+1 from by omega];simp
theorem uo (n:Nat)(vs l:List α)(h:n+vs.length≤l.length):(mM n vs l).length=l.length:=by
 rw [jR n vs l (by omega)];simp;omega
theorem JO (n:Nat)(vs l:List α)(h:n+vs.length≤l.length)(j:Nat):
  (mM n vs l)[j]?=if n≤j∧j<n+vs.length then vs[j-n]? else l[j]?:=by
 rw [jR n vs l (by omega)]
 rw [List.getElem?_append]
 simp only [awH,show min n l.length=n from by omega]
 split
 ·rw [if_neg (by omega),awJ,if_pos (by omega)]
 ·rw [List.getElem?_append]
  split
  ·rw [if_pos (by omega)]
  ·rw [if_neg (by omega),axH];congr 1;omega
end
structure Loc where
 b:Nat
 base:Nat
 cap:Nat
 spot:Option Nat
abbrev Inj:=Nat→Loc
def Inj.at (ι:Inj)(i o:Nat):Addr:=⟨(ι i).b,(ι i).base+o,if o=0 then (ι i).spot else none⟩
theorem Inj.Es {ι:Inj}{i:Nat}(h:(ι i).spot=none)(o:Nat):ι.at i o=⟨(ι i).b,(ι i).base+o,none⟩:=by simp [Inj.at,h]
def jw (ι:Inj):Fn→Fn
 | .yield l=>.yield (ι l).b
 | f=>f
mutual
def H6 (ι:Inj):j5→Value
 | .undef=>.tuple #[]
 | .bool b=>.bool b
 | .int k n=>.int k n
 | .str s=>.string ⟨s.toArray⟩
 | .nilPtr=>.pointer none
 | .ptr i o=>.pointer (some (ι.at i o))
 | .nilSlice=>.slice none 0 0
 | .slice i o l c=>.slice (some (ι.at i o)) l c
 | .sliceU i o l es=>.slice (some (ι.at i o)) l (((ι i).cap-o) / es)
 | .nilMap=>.map none
 | .map i=>.map (some (ι i).b)
 | .nilFunc=>.nilFunc
 | .func fn a b=>.func (jw ι fn) (H8 ι a).toArray (H8 ι b).toArray
 | .nilIface=>.nilIface
 | .iface t v=>.iface t (H6 ι v)
 | .agg l=>.agg (H8 ι l).toArray
 | .tuple l=>.tuple (H8 ι l).toArray
 | .pan v=>.tuple #[H6 ι v]
def H8 (ι:Inj):List j5→List Value
 | []=>[]
 | v::l=>H6 ι v::H8 ι l
end
structure Nm where
 has:Nat→Prop
 cap:Nat→Nat
instance:CoeFun Nm (fun _=>Nat→Prop):=⟨Nm.has⟩
def Nm.le (n m:Nm):Prop:=∀i,n i→m i∧m.cap i=n.cap i
theorem Nm.le_refl (n:Nm):n.le n:=fun _ h=>⟨h,rfl⟩
theorem Nm.le_trans {a b c:Nm}(h:a.le b)(k:b.le c):a.le c:=fun i hi=>⟨(k i (h i hi).1).1,(k i (h i hi).1).2.trans (h i hi).2⟩
def aei (n:Nm):Fn→Prop
 | .yield l=>n l
 | _=>True
mutual
def j5.lt (n:Nm):j5→Prop
 | .ptr i _=>n i
 | .slice i _ _ _=>n i
 | .sliceU i o l es=>n i∧1≤es∧o+l*es≤n.cap i
 | .map i=>n i
 | .func fn a b=>aei n fn∧ltL n a∧ltL n b
 | .iface _ v=>v.lt n
 | .agg l=>ltL n l
 | .tuple l=>ltL n l
 | .pan _=>False
 | _=>True
def ltL (n:Nm):List j5→Prop
 | []=>True
 | v::l=>v.lt n∧ltL n l
end
theorem bH (ι:Inj)(l:List j5):H8 ι l=l.map (H6 ι):=by
 induction l with
 | nil=>simp [H8]
 | cons v l ih=>simp [H8,ih]
theorem cZ {n:Nm}{l:List j5}:ltL n l↔∀v∈l,v.lt n:=by
 induction l with
 | nil=>simp [ltL]
 | cons v l ih=>simp [ltL,ih]
@[simp] theorem aD (ι:Inj)(l:List j5):(H8 ι l).length=l.length:=by simp [bH]
theorem aZ (ι:Inj)(l:List j5)(i:Nat):(H8 ι l)[i]?=l[i]?.map (H6 ι):=by simp [bH]
mutual
theorem V9 {n:Nm}{ι ι':Inj}(h:∀i,n i→ι' i=ι i):∀v:j5,v.lt n→H6 ι' v=H6 ι v
 | .undef,_ | .bool _,_ | .int _ _,_ | .str _,_ | .nilPtr,_ | .nilSlice,_ | .nilMap,_ | .nilFunc,_ | .nilIface,_=>by simp [H6]
 | .ptr i o,hv=>by simp only [j5.lt] at hv;simp [H6,Inj.at,h i hv]
 | .slice i o l c,hv=>by simp only [j5.lt] at hv;simp [H6,Inj.at,h i hv]
 | .sliceU i o l c,hv=>by simp only [j5.lt] at hv;simp [H6,Inj.at,h i hv.1]
 | .map i,hv=>by simp only [j5.lt] at hv;simp [H6,h i hv]
 | .func fn a b,hv=>by
  simp only [j5.lt] at hv
  obtain⟨hf,ha,hb⟩:=hv
  have e:jw ι' fn=jw ι fn:=by cases fn<;>simp_all [jw,aei]
  simp [H6,e,dJ h a ha,dJ h b hb]
 | .iface t v,hv=>by simp only [j5.lt] at hv;simp [H6,V9 h v hv]
 | .agg l,hv=>by simp only [j5.lt] at hv;simp [H6,dJ h l hv]
 | .tuple l,hv=>by simp only [j5.lt] at hv;simp [H6,dJ h l hv]
 | .pan v,hv=>by simp only [j5.lt] at hv
theorem dJ {n:Nm}{ι ι':Inj}(h:∀i,n i→ι' i=ι i):∀l:List j5,ltL n l→H8 ι' l=H8 ι l
 | [],_=>by simp [H8]
 | v::l,hl=>by simp only [ltL] at hl;simp [H8,V9 h v hl.1,dJ h l hl.2]
end
mutual
theorem j5.Z8 {n m:Nm}(h:n.le m):∀v:j5,v.lt n→v.lt m
 | .undef,_ | .bool _,_ | .int _ _,_ | .str _,_ | .nilPtr,_ | .nilSlice,_ | .nilMap,_ | .nilFunc,_ | .nilIface,_=>by simp [j5.lt]
 | .ptr i o,hv=>by simp only [j5.lt] at *;exact (h _ hv).1
 | .slice i o l c,hv=>by simp only [j5.lt] at *;exact (h _ hv).1
 | .sliceU i o l c,hv=>by simp only [j5.lt] at *;exact⟨(h _ hv.1).1,hv.2.1,by rw [(h _ hv.1).2];exact hv.2.2⟩
 | .map i,hv=>by simp only [j5.lt] at *;exact (h _ hv).1
 | .func fn a b,hv=>by
  simp only [j5.lt] at *
  exact⟨by cases fn<;>first | trivial | exact (h _ hv.1).1,dR h a hv.2.1,dR h b hv.2.2⟩
 | .iface t v,hv=>by simp only [j5.lt] at *;exact j5.Z8 h v hv
 | .agg l,hv=>by simp only [j5.lt] at *;exact dR h l hv
 | .tuple l,hv=>by simp only [j5.lt] at *;exact dR h l hv
 | .pan v,hv=>by simp only [j5.lt] at hv
theorem dR {n m:Nm}(h:n.le m):∀l:List j5,ltL n l→ltL m l
 | [],_=>by simp [ltL]
 | v::l,hl=>by simp only [ltL] at *;exact⟨j5.Z8 h v hl.1,dR h l hl.2⟩
end
theorem kT (ι:Inj)(v:j5):(H6 ι v).cells=(H8 ι v.cells).toArray:=by
 cases v<;>simp [H6,Value.cells,j5.cells,H8]
theorem vk {n:Nm}{v:j5}(h:v.lt n):ltL n v.cells:=by
 cases v<;>simp_all [j5.lt,j5.cells,ltL]
mutual
theorem jS (ι:Inj):∀(v:Value) (a:j5),ofValue v=some a→H6 ι a=v∧∀n,a.lt n
 | .bool b,a,h=>by simp only [ofValue,U0] at h;subst h;simp [H6,j5.lt]
 | .int k n,a,h=>by simp only [ofValue,U0] at h;subst h;simp [H6,j5.lt]
 | .string s,a,h=>by simp only [ofValue,U0] at h;subst h;simp [H6,j5.lt]
 | .pointer none,a,h=>by simp only [ofValue,U0] at h;subst h;simp [H6,j5.lt]
 | .pointer (some _),a,h=>by simp [ofValue] at h
 | .slice none 0 0,a,h=>by simp only [ofValue,U0] at h;subst h;simp [H6,j5.lt]
 | .slice (some _) _ _,a,h=>by simp [ofValue] at h
 | .slice none (_+1) _,a,h=>by simp [ofValue] at h
 | .slice none 0 (_+1),a,h=>by simp [ofValue] at h
 | .map none,a,h=>by simp only [ofValue,U0] at h;subst h;simp [H6,j5.lt]
 | .map (some _),a,h=>by simp [ofValue] at h
 | .nilFunc,a,h=>by simp only [ofValue,U0] at h;subst h;simp [H6,j5.lt]
 | .nilIface,a,h=>by simp only [ofValue,U0] at h;subst h;simp [H6,j5.lt]
 | .func (.func f) ⟨[]⟩ ⟨[]⟩,a,h=>by simp only [ofValue,U0] at h;subst h;simp [H6,j5.lt,jw,H8,aei,ltL]
 | .func (.func f) ⟨_ :: _⟩ _,a,h=>by simp [ofValue] at h
 | .func (.func f) ⟨[]⟩ ⟨_ :: _⟩,a,h=>by simp [ofValue] at h
 | .func (.method _) _ _,a,h=>by simp [ofValue] at h
 | .func (.methodOf _ _) _ _,a,h=>by simp [ofValue] at h
 | .func (.via _ _ _ _) _ _,a,h=>by simp [ofValue] at h
 | .func (.yield _) _ _,a,h=>by simp [ofValue] at h
 | .agg ⟨l⟩,a,h=>by
  simp only [ofValue] at h
  cases hx:ofValues l with
  | none=>simp [hx] at h
  | some x=>
   simp only [hx,U0] at h;subst h
   obtain⟨h1,h2⟩:=oV ι l x hx
   simp [H6,j5.lt,h1];exact h2
 | .tuple ⟨[]⟩,a,h=>by simp only [ofValue,U0] at h;subst h;simp [H6,j5.lt,H8,ltL]
 | .tuple ⟨_ :: _⟩,a,h=>by simp [ofValue] at h
 | .float _ _,a,h=>by simp [ofValue] at h
 | .complex _ _ _,a,h=>by simp [ofValue] at h
 | .chan _,a,h=>by simp [ofValue] at h
 | .iface _ _,a,h=>by simp [ofValue] at h
theorem oV (ι:Inj):∀(l:List Value) (x:List j5),ofValues l=some x→H8 ι x=l∧∀n,ltL n x
 | [],x,h=>by simp only [ofValues,U0] at h;subst h;simp [H8,ltL]
 | v::l,x,h=>by
  simp only [ofValues] at h
  cases hv:ofValue v with
  | none=>simp [hv] at h
  | some a=>
   cases hl:ofValues l with
   | none=>simp [hv,hl] at h
   | some y=>
    simp only [hv,hl,U0] at h;subst h
    obtain⟨h1,h2⟩:=jS ι v a hv
    obtain⟨h3,h4⟩:=oV ι l y hl
    simp [H8,ltL,h1,h3];exact fun n=>⟨h2 n,h4 n⟩
end
theorem Zg:∀(n j:Nat) (t:T j5),j+1<2^n→way n j t=(t.get j).getD .undef:=by
 intro n
 induction n with
 | zero=>intro j t h;simp at h
 | succ n ih=>
  intro j t h
  cases j with
  | zero=>cases t<;>rfl
  | succ j=>
   have hj:j / 2+1<2^n:=by rw [aw1] at h;omega
   rcases avZ j with h0 | h0
   ·simp only [way,h0]
    cases t with
    | e=>rfl
    | nd l x r=>rw [T.dw,if_pos h0];exact ih _ l hj
   ·simp only [way,h0]
    cases t with
    | e=>rfl
    | nd l x r=>rw [T.dw,if_neg (by omega)];exact ih _ r hj
theorem RV (v:j5):∀(n j:Nat) (t:T j5) (x:j5),j+1<2^n→t.get j=some x→G9 n j v t=t.put j v:=by
 intro n
 induction n with
 | zero=>intro j t x h;simp at h
 | succ n ih=>
  intro j t x h hx
  cases t with
  | e=>simp at hx
  | nd l y r=>
   cases j with
   | zero=>rfl
   | succ j=>
    have hj:j / 2+1<2^n:=by rw [aw1] at h;omega
    rw [T.dw] at hx
    rcases avZ j with h0 | h0
    ·rw [if_pos h0] at hx
     simp only [G9,h0]
     rw [T.aC,if_pos h0];show T.nd (G9 n (j / 2) v l) y r=_;rw [ih _ l x hj hx]
    ·rw [if_neg (by omega)] at hx
     simp only [G9,h0]
     rw [T.aC,if_neg (by omega)];show T.nd l y (G9 n (j / 2) v r)=_;rw [ih _ r x hj hx]
theorem qG {t:Nat}{l:List Nat}{i j:Nat}(h:idxOf t l i=some j):i≤j∧j<i+l.length∧l[j-i]?=some t:=by
 induction l generalizing i with
 | nil=>simp [idxOf] at h
 | cons x l ih=>
  simp only [idxOf] at h
  cases hx:Nat.beq x t with
  | true=>
   simp only [hx,cond_true,U0] at h
   subst h
   have:=avt hx
   simp [this]
  | false=>
   simp only [hx,cond_false] at h
   obtain⟨h1,h2,h3⟩:=ih h
   refine⟨by omega,by simp;omega,?_⟩
   rw [show j-i=(j-(i+1))+1 from by omega];simpa using h3
theorem JQ {t u:Nat}{l:List Nat}{i j:Nat}(h:idxOf t l i=some j)(h':idxOf u l i=some j):t=u:=by
 have a:=(qG h).2.2
 have b:=(qG h').2.2
 rw [a] at b;exact avA b
structure bM (ι:Inj)(n:Nm)(slots:List Nat)(env:T j5)(tmps:Array Value):Prop where
 ok:T.Ok env slots.length
 small:slots.length<2^60
 val:∀t j,idxOf t slots 0=some j→t<tmps.size∧∃v,env.get j=some v∧v.lt n∧tmps.getD t undef=H6 ι v
theorem bM.mono {ι ι':Inj}{n n':Nm}{slots:List Nat}{env:T j5}{tmps:Array Value}(h:bM ι n slots env tmps)
  (hi:∀i,n i→ι' i=ι i) (hn:n.le n'):bM ι' n' slots env tmps:=
 ⟨h.ok,h.small,fun t j ht=>by
  obtain⟨h1,v,h2,h3,h4⟩:=h.val t j ht
  exact⟨h1,v,h2,v.Z8 hn h3,by rw [h4,V9 hi v h3]⟩⟩
theorem aG (a:Array Value)(i j:Nat)(v:Value)(hi:i<a.size):
  (a.setIfInBounds i v).getD j undef=if i=j then v else a.getD j undef:=by
 rw [avE,avE]
 by_cases h:i=j
 ·subst h;rw [if_pos rfl,avI hi];rfl
 ·rw [if_neg h,avH h]
theorem bM.put {ι:Inj}{n:Nm}{slots:List Nat}{env:T j5}{tmps:Array Value}(h:bM ι n slots env tmps)(d:Option Tmp){v:j5}(hv:v.lt n):
  bM ι n slots (trD (Qc slots d) v env) (match d with | some t=>tmps.setIfInBounds t (H6 ι v) | none=>tmps):=by
 cases d with
 | none=>exact h
 | some t=>
  simp only [Qc]
  cases ht:idxOf t slots 0 with
  | none=>
   refine⟨h.ok,h.small,fun u j hu=>?_⟩
   obtain⟨h1,v',h2,h3,h4⟩:=h.val u j hu
   refine⟨by simpa using h1,v',h2,h3,?_⟩
   have hne:t≠u:=fun e=>by subst e;rw [ht] at hu;cases hu
   by_cases hts:t<tmps.size
   ·rw [aG _ _ _ _ hts,if_neg hne];exact h4
   ·rw [show tmps.setIfInBounds t (H6 ι v)=tmps from axo (aw2 hts)];exact h4
  | some k=>
   obtain⟨h1,x,h2,_,_⟩:=h.val t k ht
   have hk:=(qG ht).2.1
   have hway:trD (some k) v env=env.put k v:=RV v 64 k env x (by have:=h.small;have:(2:Nat)^60<2^64:=by decide
                                                                 omega) h2
   rw [hway]
   refine⟨h.ok.put _ _ (by omega),h.small,fun u j hu=>?_⟩
   obtain⟨g1,v',g2,g3,g4⟩:=h.val u j hu
   refine⟨by simpa using g1,?_⟩
   rw [aG _ _ _ _ h1]
   by_cases he:t=u
   ·subst he
    rw [ht] at hu;cases hu
    exact⟨v,T.aQ h.ok _ _ (by omega),hv,by simp⟩
   ·refine⟨v',?_,g3,by rw [if_neg he];exact g4⟩
    rw [T.bL h.ok _ _ _ (by omega) (fun e=>he (by subst e;exact JQ ht hu))];exact g2
def aV:Blk→Bool
 | .cells .. | .map _ | .iter .. | .loop .. | .deferred=>true
 | _=>false
def exitCode:bB→Code
 | .normal=>.skip
 | .exit id=>.exit id
 | .ret=>.ret
section
variable (P:Program)
structure vU (ι:Inj)(n:Nm)(L:Loop)(st:LoopState)(pend:Option bB)(env:T j5)(params:List (Option Nat))(assign body:bF):Prop where
 state:L.state=st
 pending:L.pending=pend.map exitCode
 code:∃slots,bM ι n slots env L.tmps∧params=L.params.toList.map (fun t=>idxOf t slots 0)∧aI P slots L.assign=some assign∧aI P slots L.body=some body∧
  ∃nt,nt≤L.tmps.size∧tmpsIn nt L.assign=true∧tmpsIn nt L.body=true
def M7 (ι:Inj):List (j5×j5)→Nat→List MapEntry
 | [],_=>[]
 | e::es,i=>{key:=H6 ι e.1,val:=H6 ι e.2,born:=i}::M7 ι es (i+1)
def fT (ι:Inj)(n:Nm)(h:Array Obj)(l:Loc):Blk→Prop
 | .void=>True
 | .dead=>True
 | .cells rs k rows=>∃c e fz,h[l.b]?=some (.cells c e fz)∧l.base+l.cap≤c.size∧(k*rs≤l.cap∧∃N,k≤N∧T.Ok rows N)∧
   ∀i,i<k→∃row,rows.get i=some row∧row.length=rs∧ltL n row∧∀j,j<rs→c[l.base+(i*rs+j)]?=(row[j]?).map (H6 ι)
 | .map es=>h[l.b]?=some (.map (M7 ι es 0).toArray es.length)∧∀e∈es,e.1.lt n∧e.2.lt n
 | .iter mp since seen=>l.base=0∧(∀x,mp=some x→n x)∧∃sn st,h[l.b]?=some (.mapIter (mp.map fun x=>(ι x).b) since sn st)∧sn.toList.reverse=seen∧(mp≠none→st=since)
 | .tail p=>n p∧(l.cap=0∨(l.b=(ι p).b∧l.base+l.cap≤(ι p).base+(ι p).cap∧((ι p).spot=none→l.spot=none)))
 | .loop st pend env params assign body=>∃L,h[l.b]?=some (.loop L)∧vU P ι n L st pend env params assign body
 | .deferred=>h[l.b]?=some (.deferred (some []))
structure asa (ι:Inj)(m:Mem)(h:Array Obj)(i:Nat):Prop where
 alone:∀j b,j≠i→m.get j=some b→aV b=true→(ι j).b≠(ι i).b
 free:∀c e fz,h[(ι i).b]?=some (.cells c e fz)→∀k,k<c.size→¬ (fz.1≤k∧k<fz.2)
def iV:Blk→Bool
 | .void=>true
 | _=>false
def Mem.has (m:Mem)(i:Nat):Prop:=∃b,m.get i=some b∧iV b=false
def Mem.nm (m:Mem)(ι:Inj):Nm:=⟨m.has,fun i=>(ι i).cap⟩
theorem Mem.bU {m m':Mem}{ι ι':Inj}(h:∀i,m.has i→m'.has i)(hi:∀i,m.has i→ι' i=ι i):(m.nm ι).le (m'.nm ι'):=
 fun i hh=>⟨h i hh,congrArg Loc.cap (hi i hh)⟩
def GSz (P:Program)(G:Mem)(h:Array Obj):Prop:=∀i rs k rows,i<P.globals.size→G.get i=some (.cells rs k rows)→∃c e fz,h[i]?=some (.cells c e fz)∧c.size=k*rs
structure RM (G:Mem)(ι:Inj)(m:Mem)(h:Array Obj):Prop where
 ok:T.Ok m.t m.next
 blk:∀i b,m.get i=some b→fT P ι (m.nm ι) h (ι i) b
 own:∀i b,m.lim≤i→m.get i=some b→aV b=true→asa ι m h i
 glim:G.next≤m.lim
 limn:m.lim≤m.next
 gle:P.globals.size≤G.next
 base:∀i,i<G.next→m.get i=G.get i
 ghas:∀i,i<P.globals.size→m.has i
 glob:∀i,i<P.globals.size→(ι i).b=i∧(ι i).base=0∧(ι i).spot=none
 spot:∀i b,m.get i=some b→aV b=true→(ι i).spot=none
 gsz:GSz P G h
end
def JR (ι:Inj)(m:Mem)(b:Nat):Prop:=∃i x,m.lim≤i∧m.get i=some x∧aV x=true∧(ι i).b=b
theorem RM.JU {P:Program}{G:Mem}{ι:Inj}{m:Mem}{h h':Array Obj}(hm:RM P G ι m h)(hh:∀b,b<h.size→¬ JR ι m b→h'[b]?=h[b]?):GSz P G h':=by
 intro i rs k rows hi hg
 obtain⟨c,e,fz,h1,h2⟩:=hm.gsz i rs k rows hi hg
 have hlt:i<h.size:=(avx.1 h1).1
 have hGn:i<G.next:=avu hi hm.gle
 have hmi:m.get i=some (.cells rs k rows):=(hm.base i hGn).trans hg
 refine⟨c,e,fz,?_,h2⟩
 rw [hh i hlt]
 ·exact h1
 ·rintro⟨j,x,hj,hx,hlx,hb⟩
  have hne:i≠j:=by have:=hm.glim;omega
  exact (hm.own j x hj hx hlx).alone i _ hne hmi rfl (by rw [(hm.glob i hi).1,hb])
structure Step (P:Program)(G:Mem)(ι:Inj)(m:Mem)(w:World)(ι':Inj)(m':Mem)(w':World):Prop where
 rm:RM P G ι' m' w'.heap
 ext:∀i,m.has i→ι' i=ι i
 has:∀i,m.has i→m'.has i
 next:m.next≤m'.next
 lim:m'.lim=m.lim
 old:∀i,i<m.lim→m'.get i=m.get i
 size:w.heap.size≤w'.heap.size
 frame:∀b,b<w.heap.size→¬ JR ι m b→w'.heap[b]?=w.heap[b]?
 own:∀b,JR ι' m' b→JR ι m b∨w.heap.size≤b
 os:w'.os=w.os
 out:w'.output=w.output
 tape:w'.tape=w.tape
theorem Step.refl {P:Program}{G:Mem}{ι:Inj}{m:Mem}{w:World}(h:RM P G ι m w.heap):Step P G ι m w ι m w:=
 ⟨h,fun _ _=>rfl,fun _ h=>h,D5 _,rfl,fun _ _=>rfl,D5 _,fun _ _ _=>rfl,fun _ h=>.inl h,rfl,rfl,rfl⟩
theorem Step.drew {P:Program}{G:Mem}{ι:Inj}{m:Mem}{w:World}(h:RM P G ι m w.heap)(n:Nat):Step P G ι m w ι m {w with drawn:=n}:=
 ⟨h,fun _ _=>rfl,fun _ h=>h,D5 _,rfl,fun _ _=>rfl,D5 _,fun _ _ _=>rfl,fun _ h=>.inl h,rfl,rfl,rfl⟩
theorem Step.trans {P:Program}{G:Mem}{ι₁ ι₂ ι₃:Inj}{m₁ m₂ m₃:Mem}{w₁ w₂ w₃:World}(a:Step P G ι₁ m₁ w₁ ι₂ m₂ w₂)(b:Step P G ι₂ m₂ w₂ ι₃ m₃ w₃):
  Step P G ι₁ m₁ w₁ ι₃ m₃ w₃ where
 rm:=b.rm
 ext i hi:=(b.ext i (a.has i hi)).trans (a.ext i hi)
 has i hi:=b.has i (a.has i hi)
 next:=avz a.next b.next
 lim:=b.lim.trans a.lim
 old i hi:=(b.old i (by rw [a.lim];exact hi)).trans (a.old i hi)
 size:=avz a.size b.size
 frame x hx ho:=by
  refine (b.frame x (avu hx a.size) fun h=>?_).trans (a.frame x hx ho)
  rcases a.own x h with h | h
  ·exact ho h
  ·omega
 own x h:=by
  rcases b.own x h with h | h
  ·exact a.own x h
  ·exact .inr (avz a.size h)
 os:=b.os.trans a.os
 out:=b.out.trans a.out
 tape:=b.tape.trans a.tape
theorem Step.H6 {P:Program}{G:Mem}{ι ι':Inj}{m m':Mem}{w w':World}(a:Step P G ι m w ι' m' w'){v:j5}(h:v.lt (m.nm ι)):AM.H6 ι' v=AM.H6 ι v:=
 V9 (n:=m.nm ι) a.ext v h
theorem Step.env {P:Program}{G:Mem}{ι ι':Inj}{m m':Mem}{w w':World}(a:Step P G ι m w ι' m' w'){slots:List Nat}{env:T j5}{tmps:Array Value}
  (h:bM ι (m.nm ι) slots env tmps):bM ι' (m'.nm ι') slots env tmps:=h.mono (n:=m.nm ι) a.ext (Mem.bU a.has a.ext)
theorem vU.mono {P:Program}{ι ι':Inj}{n n':Nm}{L:Loop}{st:LoopState}{pend:Option bB}{env:T j5}{params:List (Option Nat)}{assign body:bF}
  (h:vU P ι n L st pend env params assign body) (hi:∀i,n i→ι' i=ι i) (hn:n.le n'):vU P ι' n' L st pend env params assign body:=by
 obtain⟨h1,h2,slots,h3,h4⟩:=h
 exact⟨h1,h2,slots,h3.mono hi hn,h4⟩
theorem qH {ι ι':Inj}{n:Nm}(hi:∀i,n i→ι' i=ι i):∀(es:List (j5×j5)) (i:Nat),(∀e∈es,e.1.lt n∧e.2.lt n)→M7 ι' es i=M7 ι es i
 | [],_,_=>rfl
 | e::es,i,h=>by
  simp only [M7]
  rw [V9 hi _ (h e (by simp)).1,V9 hi _ (h e (by simp)).2,qH hi es (i+1) (fun e he=>h e (by simp [he]))]
@[simp] theorem xP (ι:Inj):∀(es:List (j5×j5)) (i:Nat),(M7 ι es i).length=es.length
 | [],_=>rfl
 | e::es,i=>by simp [M7,xP ι es]
theorem jy (ι:Inj):∀(es:List (j5×j5)) (i j:Nat),(M7 ι es i)[j]?=(es[j]?).map fun e=>{key:=H6 ι e.1,val:=H6 ι e.2,born:=i+j}
 | [],_,_=>by simp [M7]
 | e::es,i,0=>by simp [M7]
 | e::es,i,j+1=>by simp [M7,jy ι es,show i+1+j=i+(j+1) from by omega]
theorem fT.mono {P:Program}{ι ι':Inj}{n n':Nm}{h h':Array Obj}{l:Loc}{b:Blk}(hb:fT P ι n h l b)
  (hi:∀i,n i→ι' i=ι i) (hn:n.le n') (hh:aV b=true→h'[l.b]?=h[l.b]?):fT P ι' n' h' l b:=by
 cases b with
 | void=>trivial
 | dead=>trivial
 | cells rs k rows=>
  obtain⟨c,e,fz,h1,h2,h3,h4⟩:=hb
  refine⟨c,e,fz,by rw [hh rfl];exact h1,h2,h3,fun i hk=>?_⟩
  obtain⟨row,g1,g2,g3,g4⟩:=h4 i hk
  refine⟨row,g1,g2,dR hn row g3,fun j hj=>?_⟩
  rw [g4 j hj]
  cases hr:row[j]? with
  | none=>rfl
  | some v=>simp [V9 hi v (cZ.1 g3 v (avG hr))]
 | map es=>
  obtain⟨h1,h2⟩:=hb
  refine⟨?_,fun e he=>⟨e.1.Z8 hn (h2 e he).1,e.2.Z8 hn (h2 e he).2⟩⟩
  rw [hh rfl,h1,qH hi es 0 h2]
 | iter mp since seen=>
  obtain⟨h0,h1,sn,st,h2,h3,h4⟩:=hb
  refine⟨h0,fun x hx=>(hn x (h1 x hx)).1,sn,st,?_,h3,h4⟩
  rw [hh rfl,h2]
  cases mp with
  | none=>rfl
  | some x=>simp [hi x (h1 x rfl)]
 | tail p=>
  obtain⟨h1,h2⟩:=hb
  exact⟨(hn p h1).1,by rw [hi p h1];exact h2⟩
 | loop st pend env params assign body=>
  obtain⟨L,h1,h2⟩:=hb
  exact⟨L,by rw [hh rfl];exact h1,h2.mono hi hn⟩
 | deferred=>exact (hh rfl).trans hb
theorem Mem.T9 {m:Mem}(h:T.Ok m.t m.next)(b:Blk)(i:Nat):(m.new b).get i=if i=m.next then some b else m.get i:=by
 show (m.t.put m.next b).get i=_
 split
 ·rename_i e;subst e;exact T.aQ h _ _ (D5 _)
 ·rename_i e;exact T.bL h _ _ _ (D5 _) (fun h=>e h.symm)
theorem Mem.ay {m:Mem}(h:T.Ok m.t m.next){j:Nat}(hj:j<m.next)(b:Blk)(i:Nat):(m.set j b).get i=if i=j then some b else m.get i:=by
 show (m.t.put j b).get i=_
 split
 ·rename_i e;subst e;exact T.aQ h _ _ (axx hj)
 ·rename_i e;exact T.bL h _ _ _ (axx hj) (fun h=>e h.symm)
theorem Mem.M8 {m:Mem}(h:T.Ok m.t m.next){i:Nat}{b:Blk}(hi:m.get i=some b):i<m.next:=(h.get i).1 ⟨b,hi⟩
@[simp] theorem Mem.Gg (m:Mem)(b:Blk):(m.new b).next=m.next+1:=rfl
@[simp] theorem Mem.RX (m:Mem)(b:Blk):(m.new b).lim=m.lim:=rfl
@[simp] theorem Mem.aej (m:Mem)(i:Nat)(b:Blk):(m.set i b).next=m.next:=rfl
@[simp] theorem Mem.afq (m:Mem)(i:Nat)(b:Blk):(m.set i b).lim=m.lim:=rfl
def Inj.upd (ι:Inj)(i:Nat)(l:Loc):Inj:=fun j=>if j=i then l else ι j
@[simp] theorem Inj.V8 (ι:Inj)(i:Nat)(l:Loc):ι.upd i l i=l:=by simp [Inj.upd]
theorem Inj.upd_ne (ι:Inj){i j:Nat}(l:Loc)(h:j≠i):ι.upd i l j=ι j:=by simp [Inj.upd,h]
theorem dx {P:Program}{ι:Inj}{n:Nm}{h:Array Obj}{l:Loc}{b:Blk}(hb:fT P ι n h l b)(hl:aV b=true):l.b<h.size:=by
 cases b with
 | void=>cases hl
 | dead=>cases hl
 | tail=>cases hl
 | cells rs k rows=>obtain⟨c,e,fz,h1,_⟩:=hb;exact (avx.1 h1).1
 | map es=>obtain⟨h1,_⟩:=hb;exact (avx.1 h1).1
 | iter mp since seen=>obtain⟨_,_,sn,st,h1,_⟩:=hb;exact (avx.1 h1).1
 | loop=>obtain⟨L,h1,_⟩:=hb;exact (avx.1 h1).1
 | deferred=>exact (avx.1 hb).1
structure Laid (m m':Mem)(nid:Nat)(b:Blk):Prop where
 ok:T.Ok m'.t m'.next
 get:∀i,m'.get i=if i=nid then some b else m.get i
 lim:m'.lim=m.lim
 next:m.next≤m'.next
 le:m.lim≤nid
 free:¬ m.has nid
 live:iV b=false
theorem Laid.new {m:Mem}(h:T.Ok m.t m.next)(hl:m.lim≤m.next)(b:Blk)(hb:iV b=false):Laid m (m.new b) m.next b:=
 ⟨h.push b,Mem.T9 h b,rfl,Nat.le_succ _,hl,fun ⟨_,h1,_⟩=>awX _ (Mem.M8 h h1),hb⟩
theorem Laid.set {m:Mem}(h:T.Ok m.t m.next){i:Nat}(hi:m.get i=some .void)(hl:m.lim≤i)(b:Blk)(hb:iV b=false):Laid m (m.set i b) i b:=
 ⟨h.put i b (Mem.M8 h hi),Mem.ay h (Mem.M8 h hi) b,rfl,D5 _,hl,fun ⟨_,h1,h2⟩=>(by rw [hi] at h1;cases h1;cases h2),hb⟩
theorem Laid.has {m m':Mem}{nid:Nat}{b:Blk}(h:Laid m m' nid b)(i:Nat)(hi:m.has i):m'.has i:=by
 have hne:i≠nid:=fun e=>h.free (e▸hi)
 obtain⟨x,h1,h2⟩:=hi
 exact⟨x,by rw [h.get,if_neg hne];exact h1,h2⟩
theorem Laid.self {m m':Mem}{nid:Nat}{b:Blk}(h:Laid m m' nid b):m'.has nid:=⟨b,by rw [h.get,if_pos rfl],h.live⟩
theorem nR {m:Mem}{i:Nat}{b:Blk}(h:m.get i=some b)(hl:aV b=true):m.has i:=⟨b,h,by cases b<;>first | rfl | cases hl⟩
structure Zh (w w':World)(o:Obj):Prop where
 heap:w'.heap=w.heap.push o
 os:w'.os=w.os
 out:w'.output=w.output
 tape:w'.tape=w.tape
theorem Step.lay {P:Program}{G:Mem}{ι:Inj}{m m':Mem}{w w':World}(h:RM P G ι m w.heap){nid:Nat}{b:Blk}(hm:Laid m m' nid b){o:Obj}(hw:Zh w w' o){l:Loc}
  (hl:l.b=w.heap.size) (hs:l.spot=none)
  (hb:fT P (ι.upd nid l) (m'.nm (ι.upd nid l)) (w.heap.push o) l b)
  (hf:∀c e fz,o=.cells c e fz→∀k,k<c.size→¬ (fz.1≤k∧k<fz.2)):
  Step P G ι m w (ι.upd nid l) m' w':=by
 have hold:∀i x,m.get i=some x→aV x=true→(ι i).b<w.heap.size:=fun i x hx hlx=>dx (h.blk i x hx) hlx
 have hpush:∀k,k<w.heap.size→w'.heap[k]?=w.heap[k]?:=fun k hk=>by rw [hw.heap];exact axq hk |>.trans (avX hk).symm
 have hext:∀j,m.has j→ι.upd nid l j=ι j:=fun j hj=>ι.upd_ne l fun e=>hm.free (e▸hj)
 refine⟨⟨hm.ok,?_,?_,by rw [hm.lim];exact h.glim,by rw [hm.lim];exact avz h.limn hm.next,h.gle,fun i hi=>by rw [hm.get,if_neg (by have:=hm.le;have:=h.glim;omega)];exact h.base i hi,fun i hi=>hm.has i (h.ghas i hi),?_,?_,h.JU fun k hk _=>hpush k hk⟩,hext,hm.has,hm.next,hm.lim,?_,by rw [hw.heap];simp,?_,?_,hw.os,hw.out,hw.tape⟩
 ·intro i x hx
  rw [hm.get] at hx
  split at hx
  ·rename_i e;subst e;cases hx;rw [hw.heap];simpa using hb
  ·rename_i e
   rw [ι.upd_ne l e]
   exact (h.blk i x hx).mono (n:=m.nm ι) hext (Mem.bU hm.has hext) (fun hlx=>hpush _ (hold i x hx hlx))
 ·intro i x hi hx hlx
  rw [hm.lim] at hi
  rw [hm.get] at hx
  split at hx
  ·rename_i e;subst e;cases hx
   refine⟨fun j y hj hy hly=>?_,fun c e fz hc=>?_⟩
   ·rw [hm.get,if_neg hj] at hy
    rw [ι.upd_ne l hj,ι.V8,hl]
    have:=hold j y hy hly;omega
   ·rw [ι.V8,hl,hw.heap] at hc
    simp at hc
    exact hf c e fz hc
  ·rename_i e
   have ho:=h.own i x hi hx hlx
   have hb':=hold i x hx hlx
   refine⟨fun j y hj hy hly=>?_,fun c e' fz hc=>?_⟩
   ·rw [ι.upd_ne l e]
    rw [hm.get] at hy
    split at hy
    ·rename_i ej;subst ej;cases hy;rw [ι.V8,hl];omega
    ·rename_i ej;rw [ι.upd_ne l ej];exact ho.alone j y hj hy hly
   ·rw [ι.upd_ne l e] at hc
    rw [hpush _ hb'] at hc
    exact ho.free c e' fz hc
 ·intro i hi
  rw [hext i (h.ghas i hi)];exact h.glob i hi
 ·intro i x hx hlx
  rw [hm.get] at hx
  split at hx
  ·rename_i e;subst e;rw [ι.V8];exact hs
  ·rename_i e;rw [ι.upd_ne l e];exact h.spot i x hx hlx
 ·intro i hi
  rw [hm.get,if_neg (by have:=hm.le;omega)]
 ·intro b' hb' _;exact hpush b' hb'
 ·rintro b' ⟨i,x,hi,hx,hlx,rfl⟩
  rw [hm.lim] at hi
  rw [hm.get] at hx
  split at hx
  ·rename_i e;subst e;right;rw [ι.V8,hl];exact D5 _
  ·rename_i e;left
   rw [ι.upd_ne l e]
   exact⟨i,x,hi,hx,hlx,rfl⟩
theorem Step.name {P:Program}{G:Mem}{ι:Inj}{m m':Mem}{w:World}(h:RM P G ι m w.heap){nid:Nat}{b:Blk}(hm:Laid m m' nid b)(hd:aV b=false){l:Loc}
  (hb:fT P (ι.upd nid l) (m'.nm (ι.upd nid l)) w.heap l b):Step P G ι m w (ι.upd nid l) m' w:=by
 have hext:∀j,m.has j→ι.upd nid l j=ι j:=fun j hj=>ι.upd_ne l fun e=>hm.free (e▸hj)
 have hne:∀i x,m'.get i=some x→aV x=true→i≠nid∧m.get i=some x:=fun i x hx hlx=>by
  rw [hm.get] at hx
  split at hx
  ·cases hx;rw [hd] at hlx;cases hlx
  ·exact⟨by assumption,hx⟩
 refine⟨⟨hm.ok,?_,?_,by rw [hm.lim];exact h.glim,by rw [hm.lim];exact avz h.limn hm.next,h.gle,fun i hi=>by rw [hm.get,if_neg (by have:=hm.le;have:=h.glim;omega)];exact h.base i hi,fun i hi=>hm.has i (h.ghas i hi),?_,?_,h.gsz⟩,hext,hm.has,hm.next,hm.lim,?_,D5 _,fun _ _ _=>rfl,?_,rfl,rfl,rfl⟩
 ·intro i x hx
  rw [hm.get] at hx
  split at hx
  ·rename_i e;subst e;cases hx;simpa using hb
  ·rename_i e
   rw [ι.upd_ne l e]
   exact (h.blk i x hx).mono (n:=m.nm ι) hext (Mem.bU hm.has hext) (fun _=>rfl)
 ·intro i x hi hx hlx
  rw [hm.lim] at hi
  obtain⟨h1,h2⟩:=hne i x hx hlx
  have ho:=h.own i x hi h2 hlx
  refine⟨fun j y hj hy hly=>?_,fun c e' fz hc=>?_⟩
  ·obtain⟨h3,h4⟩:=hne j y hy hly
   rw [ι.upd_ne l h1,ι.upd_ne l h3];exact ho.alone j y hj h4 hly
  ·rw [ι.upd_ne l h1] at hc;exact ho.free c e' fz hc
 ·intro i hi
  rw [hext i (h.ghas i hi)];exact h.glob i hi
 ·intro i x hx hlx
  obtain⟨h1,h2⟩:=hne i x hx hlx
  rw [ι.upd_ne l h1];exact h.spot i x h2 hlx
 ·intro i hi
  rw [hm.get,if_neg (by have:=hm.le;omega)]
 ·rintro b' ⟨i,x,hi,hx,hlx,rfl⟩
  rw [hm.lim] at hi
  obtain⟨h1,h2⟩:=hne i x hx hlx
  rw [ι.upd_ne l h1]
  exact .inl ⟨i,x,hi,h2,hlx,rfl⟩
def asb (ι:Inj)(n:Nm)(done:List (Option Nat))(ls:List j5)(tmps:Array Value):Prop:=
 ∀t k,jr t done 0=some k→∃v,ls[k]?=some v∧v.lt n∧tmps.getD t undef=H6 ι v
structure St (P:Program)(ι:Inj)(n:Nm)(slots:List Nat)(done:List (Option Nat))(ls:List j5)(env:T j5)(tmps:Array Value):Prop where
 ls:asb ι n done ls tmps
 env:bM ι n slots env tmps
 glob:∀i,i<P.globals.size→(ι i).b=i∧(ι i).base=0∧(ι i).spot=none
 gn:∀g,g<P.globals.size→n g
section
variable {P:Program}{G:Mem}{ι:Inj}{n:Nm}{slots:List Nat}{done:List (Option Nat)}{ls:List j5}{env:T j5}{a:Act}
theorem Et (k:Nat):∀(ls:List j5) (env:T j5),trO (.loc k) ls env=ls[k]?.getD .undef:=by
 intro ls env
 match k with
 | 0=>cases ls<;>rfl
 | 1=>match ls with | [] | [_] | _ :: _ :: _=>rfl
 | 2=>match ls with | [] | [_] | [_,_] | _ :: _ :: _ :: _=>rfl
 | 3=>match ls with | [] | [_] | [_,_] | [_,_,_] | _ :: _ :: _ :: _ :: _=>rfl
 | k+4=>show nth (k+4) ls=_;exact Qf _ _
theorem NG (j:Nat)(h:j<2^60)(ls:List j5)(env:T j5):trO (.slot j) ls env=(env.get j).getD .undef:=by
 show way 64 j env=_
 exact Zg 64 j env (by have:(2:Nat)^60+1<2^64:=by decide
                       omega)
theorem I5 (s:St P ι n slots done ls env a.tmps){x:Operand}{o:Opd}(h:bK P slots done x=some o):
  a.eval x=H6 ι (trO o ls env)∧(trO o ls env).lt n:=by
 cases x with
 | tmp t=>
  simp only [bK] at h
  cases hk:jr t done 0 with
  | some k=>
   simp only [hk,U0] at h;subst h
   obtain⟨v,h1,h2,h3⟩:=s.ls t k hk
   rw [Et,h1];exact⟨h3,h2⟩
  | none=>
   simp only [hk] at h
   cases hj:idxOf t slots 0 with
   | none=>simp [hj] at h
   | some j=>
    simp only [hj,U0] at h;subst h
    obtain⟨_,v,h1,h2,h3⟩:=s.env.val t j hj
    rw [NG j (by have:=(qG hj).2.1;have:=s.env.small;omega),h1];exact⟨h3,h2⟩
 | const v=>
  simp only [bK] at h
  cases hv:ofValue v with
  | none=>simp [hv] at h
  | some c=>
   simp only [hv,U0] at h;subst h
   obtain⟨h1,h2⟩:=jS ι v c hv
   exact⟨h1.symm,h2 n⟩
 | global g=>
  simp only [bK] at h
  split at h
  ·rename_i hg
   cases h
   obtain⟨h1,h2,h3⟩:=s.glob g hg
   refine⟨?_,?_⟩
   ·show Value.pointer (some ⟨g,0,none⟩)=.pointer (some (ι.at g 0))
    rw [Inj.Es h3,h1,h2]
   ·exact s.gn g hg
  ·cases h
 | func f=>
  simp only [bK,U0] at h;subst h
  exact⟨by simp [Act.eval,trO,Q6,H6,jw,H8],by simp [trO,Q6,j5.lt,aei,ltL]⟩
theorem je (s:St P ι n slots done ls env a.tmps):∀{l:List Operand} {os:List Opd},kS P slots done l=some os→
  l.map a.eval=H8 ι (evs (mE os) ls env)∧ltL n (evs (mE os) ls env)
 | [],os,h=>by simp only [kS,U0] at h;subst h;simp [mE,evs,H8,ltL]
 | x::l,os,h=>by
  simp only [kS] at h
  cases hx:bK P slots done x with
  | none=>simp [hx] at h
  | some o=>
   cases hl:kS P slots done l with
   | none=>simp [hx,hl] at h
   | some r=>
    simp only [hx,hl,U0] at h;subst h
    obtain⟨h1,h2⟩:=I5 s hx
    obtain⟨h3,h4⟩:=je s hl
    refine⟨?_,?_⟩
    ·show a.eval x::l.map a.eval=H6 ι (trO o ls env)::H8 ι (evs (mE r) ls env)
     rw [h1,h3]
    ·exact⟨h2,h4⟩
end
section
variable {P:Program}{G:Mem}{w:World}
theorem run_underlying {t:TypeId}{d:TypeDesc}(h:P.underlying t=some d):(underlying t).run P w=.ok d w:=by simp [underlying,h]
theorem run_sizeOf {t:TypeId}{k:Nat}(h:jM P t=some k):(sizeOf t).run P w=.ok k w:=by
 simp only [jM,awI] at h
 obtain⟨i,h1,h2⟩:=h
 simp [sizeOf,typeInfo,h1,h2]
theorem qI {t:TypeId}{k:Nat}(h:iD P t=some k):∃i,(typeInfo t).run P w=.ok i w∧i.bytes=k:=by
 simp only [iD,awI] at h
 obtain⟨i,h1,h2⟩:=h
 exact⟨i,by simp [typeInfo,h1],h2⟩
theorem mU {t:TypeId}{b:Bool}(h:Ei P t=some b):(isAgg t).run P w=.ok b w:=by
 simp only [Ei] at h
 cases hu:P.underlying t with
 | none=>simp [hu] at h
 | some d=>
  simp only [isAgg,avy,run_underlying hu,avs]
  cases d<;>simp_all
theorem zq {t:TypeId}{s:Option Nat}(h:partT P t=some s):(s=none∧Ei P t=some false∧∃k,jM P t=some k)∨(∃k,s=some k∧Ei P t=some true∧jM P t=some k):=by
 simp only [partT] at h
 split at h
 ·rename_i k h1 h2;cases h;exact .inr ⟨k,rfl,h1,h2⟩
 ·rename_i k h1 h2;cases h;exact .inl ⟨rfl,h1,k,h2⟩
 ·cases h
theorem dK {t:TypeId}{z:List j5}(h:sD P t=some z)(ι:Inj):∃v,(zeroValue t).run P w=.ok v w∧v.cells=(H8 ι z).toArray∧∀n,ltL n z:=by
 simp only [sD] at h
 cases hi:P.info? t with
 | none=>simp [hi] at h
 | some i=>
  cases hz:i.zero with
  | none=>simp [hi,hz] at h
  | some v=>
   cases ha:ofValue v with
   | none=>simp [hi,hz,ha] at h
   | some a=>
    simp only [hi,hz,ha,avK,U0] at h;subst h
    obtain⟨h1,h2⟩:=jS ι v a ha
    exact⟨v,by simp [zeroValue,typeInfo,hi,hz],by rw [← h1,kT],fun n=>vk (h2 n)⟩
theorem mV {t:TypeId}{z:j5}(h:zeroV P t=some z)(ι:Inj):(zeroValue t).run P w=.ok (H6 ι z) w∧∀n,z.lt n:=by
 simp only [zeroV] at h
 cases hi:P.info? t with
 | none=>simp [hi] at h
 | some i=>
  cases hz:i.zero with
  | none=>simp [hi,hz] at h
  | some v=>
   simp only [hi,hz,avK] at h
   obtain⟨h1,h2⟩:=jS ι v z h
   exact⟨by simp [zeroValue,typeInfo,hi,hz,h1],h2⟩
end
theorem vV (n:Int)(h:-9223372036854775808≤n∧n<9223372036854775808):IntKind.i64.wrap n=n:=by
 have e1:((2:Int)^IntKind.i64.bits)=18446744073709551616:=rfl
 have e2:((2:Int)^(IntKind.i64.bits-1))=9223372036854775808:=rfl
 unfold IntKind.wrap
 rw [e1,e2]
 show (if (true&&decide (n%18446744073709551616≥9223372036854775808))=true then n%18446744073709551616-18446744073709551616 else n%18446744073709551616)=n
 obtain⟨h1,h2⟩:=h
 by_cases hn:0≤n
 ·have:n%18446744073709551616=n:=Int.emod_eq_of_lt hn (by omega)
  rw [this,if_neg (by simp only [awQ,decide_eq_true_eq];omega)]
 ·have:n%18446744073709551616=n+18446744073709551616:=by
   rw [← Int.add_emod_right];exact Int.emod_eq_of_lt (by omega) (by omega)
  rw [this,if_pos (by simp only [awQ,decide_eq_true_eq];omega)]
  omega
theorem Zi (n:Int):w64 n=IntKind.i64.wrap n:=by
 cases n with
 | ofNat m=>
  simp only [w64]
  cases h:Nat.blt m 9223372036854775808 with
  | true=>
   have:m<9223372036854775808:=(Eq.mp avM h)
   have hw:=vV (Int.ofNat m) ⟨by have:(0:Int)≤Int.ofNat m:=Int.natCast_nonneg m
                                 omega,by have:Int.ofNat m=(m:Int):=rfl
                                          omega⟩
   exact (aJ _ _).trans hw.symm
  | false=>exact aY _ _
 | negSucc m=>
  simp only [w64]
  cases h:Nat.blt m 9223372036854775808 with
  | true=>
   have:m<9223372036854775808:=(Eq.mp avM h)
   have e:=axj m
   have hw:=vV (Int.negSucc m) ⟨by omega,by omega⟩
   exact (aJ _ _).trans hw.symm
  | false=>exact aY _ _
theorem qJ (k:IntKind)(n:Int):jL k n=k.wrap n:=by
 cases k<;>first | exact Zi n | rfl
theorem lD (a b:Int):xK a b=(a==b):=by
 cases a with
 | ofNat a=>
  cases b with
  | ofNat b=>
   show Nat.beq a b=_
   by_cases h:a=b
   ·subst h;simp [awU]
   ·rw [show Nat.beq a b=false from avO.2 fun e=>h (avt e)]
    exact (beq_eq_false_iff_ne.2 (fun e=>h (Int.ofNat.inj e))).symm
  | negSucc b=>exact (beq_eq_false_iff_ne.2 (fun e=>by cases e)).symm
 | negSucc a=>
  cases b with
  | ofNat b=>exact (beq_eq_false_iff_ne.2 (fun e=>by cases e)).symm
  | negSucc b=>
   show Nat.beq a b=_
   by_cases h:a=b
   ·subst h;simp [awU]
   ·rw [show Nat.beq a b=false from avO.2 fun e=>h (avt e)]
    exact (beq_eq_false_iff_ne.2 (fun e=>h (Int.negSucc.inj e))).symm
theorem blt_eq (a b:Nat):Nat.blt a b=decide (a<b):=by
 by_cases h:a<b
 ·rw [decide_eq_true h];exact (Eq.mpr avM h)
 ·rw [decide_eq_false h];exact avO.2 fun e=>h (Eq.mp avM e)
theorem fU (a b:Int):oK a b=decide (a<b):=by
 cases a with
 | ofNat a=>
  cases b with
  | ofNat b=>exact (blt_eq a b).trans (decide_eq_decide.2 (by show a<b↔(a:Int)<(b:Int);omega))
  | negSucc b=>exact (decide_eq_false (by rw [axj];show ¬ (a:Int) < _;omega)).symm
 | negSucc a=>
  cases b with
  | ofNat b=>exact (decide_eq_true (by rw [axj];show _<(b:Int);omega)).symm
  | negSucc b=>exact (blt_eq b a).trans (decide_eq_decide.2 (by rw [axj,axj];omega))
theorem JV (a b:IntKind):kEq a b=decide (a=b):=by cases a<;>cases b<;>rfl
theorem vo:∀a b:List UInt8,strEq a b=(a==b)
 | [],[]=>rfl
 | [],_ :: _=>rfl
 | _ :: _,[]=>rfl
 | x::a,y::b=>by
  show bi (Nat.beq x.toNat y.toNat) (strEq a b) false=_
  rw [vo a b]
  by_cases h:x=y
  ·subst h;simp [awU]
  ·have:Nat.beq x.toNat y.toNat=false:=by
    rw [avO];intro e
    exact h (axv.1 (avt e))
   rw [this];simp [h]
theorem zu:∀a b:List UInt8,pO a b=Op.bytesLess a b
 | _,[]=>by cases ‹List UInt8› <;> rfl
 | [],_ :: _=>rfl
 | x::a,y::b=>by simp [pO,Op.bytesLess,zu a b]
theorem Inj.mW (ι:Inj)(i o k:Nat):(ι.at i o).add k=ι.at i (o+k):=by
 unfold Addr.add Inj.at
 split
 ·rename_i h;subst h;rfl
 ·rename_i h
  have:¬ (o+k=0):=by omega
  simp [avw,this]
  intro _ hk;exact absurd hk h
section
variable {β:Type}{v:j5}{r:β}
theorem iQ {k:Nat→Nat→Option β}(h:sj v k=some r):∃i o,v=.ptr i o∧k i o=some r:=by
 cases v<;>first | exact⟨_,_,rfl,h⟩ | (simp [sj] at h)
theorem kC {k:IntKind→Int→Option β}(h:BN v k=some r):∃i n,v=.int i n∧k i n=some r:=by
 cases v<;>first | exact⟨_,_,rfl,h⟩ | (simp [BN] at h)
theorem nS {k:Bool→Option β}(h:pK v k=some r):∃b,v=.bool b∧k b=some r:=by
 cases v<;>first | exact⟨_,rfl,h⟩ | (simp [pK] at h)
theorem mX {k:List UInt8→Option β}(h:BI v k=some r):∃s,v=.str s∧k s=some r:=by
 cases v<;>first | exact⟨_,rfl,h⟩ | (simp [BI] at h)
theorem fV {k:List j5→Option β}(h:El v k=some r):∃l,v=.agg l∧k l=some r:=by
 cases v<;>first | exact⟨_,rfl,h⟩ | (simp [El] at h)
theorem RY {k:List j5→Option β}(h:PE v k=some r):∃l,v=.tuple l∧k l=some r:=by
 cases v<;>first | exact⟨_,rfl,h⟩ | (simp [PE] at h)
theorem sF {nl:Option β}{k:Nat→Option β}(h:BO v nl k=some r):(v=.nilMap∧nl=some r)∨∃i,v=.map i∧k i=some r:=by
 cases v<;>first | exact .inl ⟨rfl,h⟩ | exact .inr ⟨_,rfl,h⟩ | (simp [BO] at h)
theorem uq {nl:Option β}{k u:Nat→Nat→Nat→Nat→Option β}(h:vSl v nl k u=some r):
  (v=.nilSlice∧nl=some r)∨(∃a b c d,v=.slice a b c d∧k a b c d=some r)∨∃a b c d,v=.sliceU a b c d∧u a b c d=some r:=by
 cases v<;>first | exact .inl ⟨rfl,h⟩ | exact .inr (.inl ⟨_,_,_,_,rfl,h⟩) | exact .inr (.inr ⟨_,_,_,_,rfl,h⟩) | (simp [vSl] at h)
theorem Eu {k:Fn→List j5→List j5→Option β}(h:PG v k=some r):∃f a b,v=.func f a b∧k f a b=some r:=by
 cases v<;>first | exact⟨_,_,_,rfl,h⟩ | (simp [PG] at h)
theorem RZ {n:Int}{k:Nat→Option β}(h:PI n k=some r):∃m:Nat,n=(m:Int)∧k m=some r:=by
 cases n with
 | ofNat m=>exact⟨m,rfl,h⟩
 | negSucc m=>simp [PI] at h
theorem eU {k:Nat→Option β}(h:oQ v k=some r):∃i,∃m:Nat,v=.int i (m:Int)∧k m=some r:=by
 obtain⟨i,n,rfl,h⟩:=kC h
 obtain⟨m,rfl,h⟩:=RZ h
 exact⟨i,m,rfl,h⟩
theorem idx_eq {len:Nat}{k:Nat→Option β}(h:idx len v k=some r):∃i,∃m:Nat,v=.int i (m:Int)∧m<len∧k m=some r:=by
 obtain⟨i,m,rfl,h⟩:=eU h
 obtain⟨h1,h2⟩:=L6 h
 exact⟨i,m,rfl,Eq.mp avM h1,h2⟩
end
section
variable {P:Program}{G:Mem}{ι:Inj}{n:Nm}
theorem nT {op:BinOp}{t:TypeId}{x y:Operand}{a b:Value}{w:World}
  (h:∀p q,a≠.agg p∨b≠.agg q) (h':a≠.nilIface∨b≠.nilIface∨xM x=true∨xM y=true):(eqGuard op t x y a b).run P w=.ok () w:=by
 unfold eqGuard
 cases op<;>simp<;>(
  split
  ·rename_i h1 h2
   rcases h' with h' | h' | h' | h'
   ·exact absurd rfl h'
   ·exact absurd rfl h'
   ·cases x<;>simp_all [xM]
   ·cases y<;>simp_all [xM]
  ·rename_i p q
   rcases h p q with h | h<;>exact absurd rfl h
  ·rfl)
theorem Ck {op:BinOp}(h1:op≠.shl)(h2:op≠.shr){k:IntKind}{a b:Int}{v:j5}(h:Nv op k a b=some v)(t:TypeId)(w:World):
  (binOp op t (.int k a) (.int k b)).run P w=.ok (H6 ι v) w∧v.lt n:=by
 cases op<;>first
  | exact absurd rfl h1
  | exact absurd rfl h2
  | (simp only [Nv,jc,BJ,Ym,iEq,iNe,iLt,iLe,iGt,iGe,afi,iOr,aqV,Jz,U0] at h
     subst h
     simp [binOp,Op.intArith,Op.intCmp,Op.intBits,H6,j5.lt,qJ,lD,fU,Jw,bne]
     done)
  | (simp only [Nv,PL,Jy,afh] at h
     have hb:b≠0:=by rintro rfl;simp at h
     split at h
     ·exact absurd rfl hb
     ·cases h
      simp [binOp,Op.intDiv,hb,H6,j5.lt,qJ])
  | (simp only [Nv,iLe,iGe,U0] at h
     subst h
     simp [binOp,Op.intCmp,H6,j5.lt,fU]
     rw [avV];simp)
theorem nU (s:List UInt8):(⟨s.toArray⟩:ByteArray).size=s.length:=by simp [ByteArray.size]
theorem Cm {op:BinOp}{a b:List UInt8}{v:j5}(h:Nw op a b=some v)(t:TypeId)(w:World):
  (binOp op t (.string ⟨a.toArray⟩) (.string ⟨b.toArray⟩)).run P w=.ok (H6 ι v) w∧v.lt n:=by
 cases op<;>first
  | (simp only [Nw,fK] at h;cases h;done)
  | (simp only [Nw,sEq,sNe,sLt,sLe,sGt,sGe,U0] at h
     subst h
     simp [binOp,Op.stringOp,H6,j5.lt,vo,zu]
     done)
  | (simp only [Nw,bG] at h
     obtain⟨h1,h2⟩:=L6 h
     cases h2
     have h3:len' a+len' b<9223372036854775808:=Eq.mp avM h1
     simp only [Q5] at h3
     simp [binOp,Op.stringOp,nU,H6,j5.lt]
     rw [if_neg (by omega)]
     congr 3)
theorem nV {op:BinOp}(h1:op≠.shl)(h2:op≠.shr){x y v:j5}(h:Jo (Nv op) (Nw op) x y=some v)(t:TypeId)(w:World):
  (binOp op t (H6 ι x) (H6 ι y)).run P w=.ok (H6 ι v) w∧v.lt n:=by
 cases x<;>try (simp [Jo] at h;done)
 ·rename_i k a
  simp only [Jo] at h
  obtain⟨k',b,rfl,h⟩:=kC h
  obtain⟨h3,h4⟩:=L6 h
  rw [JV,decide_eq_true_eq] at h3
  subst h3
  exact Ck h1 h2 h4 t w
 ·rename_i a
  simp only [Jo] at h
  obtain⟨b,rfl,h⟩:=mX h
  exact Cm h t w
theorem JW {op:BinOp}{x y v:j5}(h:Jo (Nv op) (Nw op) x y=some v):
  (∃k a,x=.int k a)∨∃a,x=.str a:=by
 cases x<;>first | exact .inl ⟨_,_,rfl⟩ | exact .inr ⟨_,rfl⟩ | (simp [Jo] at h;done)
theorem Cn {x y v:j5}(h:aeb x y=some v)(t:TypeId)(w:World):(binOp .shl t (H6 ι x) (H6 ι y)).run P w=.ok (H6 ι v) w∧v.lt n:=by
 simp only [aeb] at h
 obtain⟨k,a,rfl,h⟩:=kC h
 obtain⟨i,m,rfl,h⟩:=eU h
 cases h
 simp [binOp,Op.shift,H6,j5.lt,qJ,show ¬ ((m:Int)<0) from by omega]
theorem Co {x y v:j5}(h:aec x y=some v)(t:TypeId)(w:World):(binOp .shr t (H6 ι x) (H6 ι y)).run P w=.ok (H6 ι v) w∧v.lt n:=by
 simp only [aec] at h
 obtain⟨k,a,rfl,h⟩:=kC h
 obtain⟨i,m,rfl,h⟩:=eU h
 cases h
 simp [binOp,Op.shift,H6,j5.lt,show ¬ ((m:Int)<0) from by omega]
theorem vW (a b:Bool):BP a b=(a==b):=by cases a<;>cases b<;>rfl
theorem nW {x y:j5}{r:Bool}(h:cO x y=some r):∃k a b,x=.int k a∧y=.int k b∧r=(a==b):=by
 obtain⟨k,a,h0,h1⟩:=kC h
 obtain⟨k',b,h2,h3⟩:=kC h1
 obtain⟨h4,h5⟩:=L6 h3
 rw [JV,decide_eq_true_eq] at h4
 subst h4;cases h5
 exact⟨_,_,_,h0,h2,lD _ _⟩
theorem gU {x y:j5}{r:Bool}(h:tY x y=some r):∃a b,x=.bool a∧y=.bool b∧r=(a==b):=by
 obtain⟨a,h0,h1⟩:=nS h
 obtain⟨b,h2,h3⟩:=nS h1
 cases h3
 exact⟨_,_,h0,h2,vW _ _⟩
theorem nX {x y:j5}{r:Bool}(h:eqStr x y=some r):∃a b,x=.str a∧y=.str b∧r=(a==b):=by
 obtain⟨a,h0,h1⟩:=mX h
 obtain⟨b,h2,h3⟩:=mX h1
 cases h3
 exact⟨_,_,h0,h2,vo _ _⟩
end
section
variable {P:Program}{G:Mem}{ι:Inj}{n:Nm}
theorem jf (a b:List j5):dG [] a b=some true:=rfl
theorem gV (k:PK)(ks:List PK)(x y:j5)(a b:List j5):dG (k::ks) (x::a) (y::b)=ob (PN k x y) fun r=>bi r (dG ks a b) (some false):=rfl
theorem gW {k:PK}{ks:List PK}{a b:List j5}{r:Bool}(h:dG (k::ks) a b=some r):
  ∃x xs y ys s,a=x::xs∧b=y::ys∧PN k x y=some s∧bi s (dG ks xs ys) (some false)=some r:=by
 cases a with
 | nil=>cases h
 | cons x xs=>
  cases b with
  | nil=>cases h
  | cons y ys=>
   rw [gV] at h
   obtain⟨s,h1,h2⟩:=J6 h
   exact⟨x,xs,y,ys,s,rfl,rfl,h1,h2⟩
theorem Ib (ks ms:List PK):∀(a b:List j5) (r:Bool),dG (ks++ms) a b=some r→
  (dG ks a b=some false∧r=false)∨(dG ks a b=some true∧dG ms (a.drop ks.length) (b.drop ks.length)=some r):=by
 induction ks with
 | nil=>intro a b r h;right;exact⟨rfl,by simpa using h⟩
 | cons k ks ih=>
  intro a b r h
  obtain⟨x,xs,y,ys,s,rfl,rfl,h1,h2⟩:=gW h
  rw [gV,h1]
  cases s with
  | false=>left;cases h2;exact⟨rfl,rfl⟩
  | true=>simpa using ih xs ys r h2
theorem vX (ks:List PK):∀(m:Nat) (a b:List j5),ks.length≤m→dG ks (a.take m) (b.take m)=dG ks a b:=by
 induction ks with
 | nil=>intro m a b _;rfl
 | cons k ks ih=>
  intro m a b h
  obtain⟨m,rfl⟩:∃m',m=m'+1:=⟨m-1,by simp at h;omega⟩
  cases a with
  | nil=>rfl
  | cons x xs=>
   cases b with
   | nil=>rfl
   | cons y ys=>
    rw [List.take_succ_cons,List.take_succ_cons,gV,gV,ih m xs ys (by simpa using h)]
def mkV (ι:Inj)(agg:Bool)(l:List j5):Value:=if agg then .agg (H8 ι l).toArray else H6 ι (l.headD .undef)
theorem Cq (ι:Inj)(l:List j5)(o k:Nat):((H8 ι l).toArray.extract o (o+k))=(H8 ι ((l.drop o).take k)).toArray:=by
 rw [List.extract_toArray]
 congr 1
 rw [bH,bH,aw6,ax3]
 simp [aye,ayd]
theorem qK {t:TypeId}{agg:Bool}{k:Nat}(ha:Ei P t=some agg)(hs:jM P t=some k)(l:List j5)(o:Nat)(hl:agg=false→o<l.length∧k=1)(w:World):
  (part t (H8 ι l).toArray o).run P w=.ok (mkV ι agg ((l.drop o).take k)) w:=by
 simp only [part,avy,mU ha,avs]
 cases agg with
 | true=>
  simp only [if_true,avy,run_sizeOf hs,avs,avP,Cq];rfl
 | false=>
  obtain⟨h,rfl⟩:=hl rfl
  have:(H8 ι l).toArray[o]?=some (H6 ι l[o]):=by simp [aZ,U1 h]
  simp only [awg,if_false,this,mkV,avP]
  congr 2
  rw [avJ h];rfl
theorem Ak {t:TypeId}{k:IntKind}(h:P.underlying t=some (.int k)):Ei P t=some false:=by simp [Ei,h]
theorem JX {t:TypeId}(h:P.underlying t=some .bool):Ei P t=some false:=by simp [Ei,h]
theorem Ew {t:TypeId}(h:P.underlying t=some .string):Ei P t=some false:=by simp [Ei,h]
theorem lF {t:TypeId}{fs:Array Field}(h:P.underlying t=some (.struct fs)):Ei P t=some true:=by simp [Ei,h]
theorem pU {t:TypeId}{k:IntKind}(h:P.underlying t=some (.int k)){x y:j5}{r:Bool}(he:cO x y=some r)(d:Nat)(w:World):
  (Op.equalIn (d+1) t (H6 ι x) (H6 ι y)).run P w=.ok r w:=by
 obtain⟨k,a,b,rfl,rfl,rfl⟩:=nW he
 simp [Op.equalIn,run_underlying h,H6]
theorem uw {t:TypeId}(h:P.underlying t=some .bool){x y:j5}{r:Bool}(he:tY x y=some r)(d:Nat)(w:World):
  (Op.equalIn (d+1) t (H6 ι x) (H6 ι y)).run P w=.ok r w:=by
 obtain⟨a,b,rfl,rfl,rfl⟩:=gU he
 simp [Op.equalIn,run_underlying h,H6]
theorem lG (a b:List UInt8):((⟨a.toArray⟩:ByteArray)==⟨b.toArray⟩)=(a==b):=by
 show ByteArray.beq _ _=_
 simp [ByteArray.beq]
theorem vY {t:TypeId}(h:P.underlying t=some .string){x y:j5}{r:Bool}(he:eqStr x y=some r)(d:Nat)(w:World):
  (Op.equalIn (d+1) t (H6 ι x) (H6 ι y)).run P w=.ok r w:=by
 obtain⟨a,b,rfl,rfl,rfl⟩:=nX he
 simp [Op.equalIn,run_underlying h,H6,lG]
def iK (d:Nat)(X Y:Array Value):List Field→Sem Bool
 | []=>pure true
 | f::l=>do
  if f.name≠ "_" then
   if !(← Op.equalIn d f.type (← part f.type X f.offset) (← part f.type Y f.offset)) then return false
  iK d X Y l
theorem Cr (d:Nat)(X Y:Array Value)(l:List Field):
  (do
   let s ← forIn l ((none,()):Option Bool×Unit) fun f _=>
    if f.name≠ "_" then do
     let a ← part f.type X f.offset
     let b ← part f.type Y f.offset
     let e ← Op.equalIn d f.type a b
     if (!e)=true then pure (ForInStep.done (some false,())) else pure (ForInStep.yield (none,()))
    else pure (ForInStep.yield (none,()))
   match s.fst with
   | some r=>pure r
   | none=>pure true:Sem Bool)=iK d X Y l:=by
 induction l with
 | nil=>simp [iK]
 | cons f l ih=>
  rw [axC]
  simp only [iK]
  rw [← ih]
  by_cases hf:f.name= "_"
  ·simp [hf]
  ·simp only [ne_eq,hf,not_false_eq_true,if_true,bind_assoc]
   congr 1;funext a
   congr 1;funext b
   congr 1;funext e
   cases e<;>simp
theorem xQ {t:TypeId}{fs:Array Field}(h:P.underlying t=some (.struct fs))(hs:P.stoodInHeld t=false)(X Y:Array Value)(d:Nat)(w:World):
  (Op.equalIn (d+1) t (.agg X) (.agg Y)).run P w=(iK d X Y fs.toList).run P w:=by
 simp only [Op.equalIn,avy,run_underlying h,avs,run_program,hs]
 rw [← axI,← Cr]
 simp
 congr 1
 funext a w'
 obtain⟨o,u⟩:=a
 cases o<;>rfl
theorem Ct:∀(d:Nat) (t:TypeId) (ks:List PK),fQ P d t=some ks→∃agg,Ei P t=some agg∧jM P t=some ks.length∧(agg=false→ks.length=1)∧
  ∀D,d≤D→∀(a b:List j5) (r:Bool),dG ks a b=some r→∀w,(Op.equalIn D t (mkV ι agg a) (mkV ι agg b)).run P w=.ok r w:=by
 intro d
 induction d with
 | zero=>intro t ks h;simp [fQ] at h
 | succ d ih=>
  intro t ks h
  simp only [fQ] at h
  cases hu:P.underlying t with
  | none=>simp [hu] at h
  | some u=>
   rw [hu] at h
   cases u<;>try (simp at h;done)
   ·
    simp only at h
    split at h
    ·rename_i hz;cases h
     refine⟨false,JX hu,hz,fun _=>rfl,fun D hD a b r he w=>?_⟩
     obtain⟨x,xs,y,ys,s,rfl,rfl,h1,h2⟩:=gW he
     obtain⟨D,rfl⟩:∃D',D=D'+1:=⟨D-1,by omega⟩
     have:s=r:=by cases s<;>simpa [jf] using h2
     subst this
     exact uw hu h1 D w
    ·cases h
   ·simp only at h
    split at h
    ·rename_i hz;cases h
     refine⟨false,Ak hu,hz,fun _=>rfl,fun D hD a b r he w=>?_⟩
     obtain⟨x,xs,y,ys,s,rfl,rfl,h1,h2⟩:=gW he
     obtain⟨D,rfl⟩:∃D',D=D'+1:=⟨D-1,by omega⟩
     have:s=r:=by cases s<;>simpa [jf] using h2
     subst this
     exact pU hu h1 D w
    ·cases h
   ·simp only at h
    split at h
    ·rename_i hz;cases h
     refine⟨false,Ew hu,hz,fun _=>rfl,fun D hD a b r he w=>?_⟩
     obtain⟨x,xs,y,ys,s,rfl,rfl,h1,h2⟩:=gW he
     obtain⟨D,rfl⟩:∃D',D=D'+1:=⟨D-1,by omega⟩
     have:s=r:=by cases s<;>simpa [jf] using h2
     subst this
     exact vY hu h1 D w
    ·cases h
   ·rename_i fs
    simp only at h
    cases hf:mQ (fQ P d) fs.toList 0 with
    | none=>simp [hf] at h
    | some ks'=>
     simp only [hf] at h
     split at h
     ·rename_i hz
      cases h
      refine⟨true,lF hu,hz.2,(fun h=>by cases h),fun D hD a b r he w=>?_⟩
      obtain⟨D,rfl⟩:∃D',D=D'+1:=⟨D-1,by omega⟩
      simp only [mkV,if_true]
      rw [xQ hu hz.1]
      have key:∀(l:List Field) (off:Nat) (ks₁:List PK) (pre:List PK),ks=pre++ks₁→pre.length=off→mQ (fQ P d) l off=some ks₁→
        ∀r,dG ks₁ (a.drop off) (b.drop off)=some r→(iK D (H8 ι a).toArray (H8 ι b).toArray l).run P w=.ok r w:=by
       intro l
       induction l with
       | nil=>
        intro off ks₁ pre _ _ hl r hr
        simp only [mQ,U0] at hl;subst hl
        rw [jf] at hr;cases hr
        simp [iK]
       | cons f l ihl=>
        intro off ks₁ pre hks hpre hl r hr
        simp only [mQ] at hl
        split at hl
        ·rename_i hn
         cases hk:fQ P d f.type with
         | none=>simp [hk] at hl
         | some kf=>
          simp only [hk] at hl
          cases hrest:mQ (fQ P d) l (off+kf.length) with
          | none=>simp [hrest] at hl
          | some kr=>
           simp only [hrest,U0] at hl;subst hl
           obtain⟨agg,ha,hsz,h1,hE⟩:=ih f.type kf hk
           have hne:∀(c:List j5),(a=c∨b=c)→agg=false→off<c.length∧kf.length=1:=by
            intro c hc hagg
            have h1':=h1 hagg
            refine⟨?_,h1'⟩
            cases kf with
            | nil=>simp at h1'
            | cons k0 kf=>
             obtain⟨x,xs,y,ys,s,e1,e2,_,_⟩:=gW hr
             rcases hc with rfl | rfl
             ·have:=congrArg List.length e1;simp at this;omega
             ·have:=congrArg List.length e2;simp at this;omega
           simp only [iK,if_pos hn.1,avy]
           rw [hn.2,qK ha hsz _ _ (hne a (.inl rfl)),avs,qK ha hsz _ _ (hne b (.inr rfl)),avs]
           rcases Ib kf kr _ _ r hr with⟨e1,rfl⟩ | ⟨e1,e2⟩
           ·rw [hE D (by omega) _ _ _ ((vX kf _ _ _ (D5 _)).trans e1) w];simp
           ·rw [hE D (by omega) _ _ _ ((vX kf _ _ _ (D5 _)).trans e1) w]
            simp only [avs,axM,awg,if_false]
            refine ihl (off+kf.length) kr (pre++kf) (by rw [hks];simp) (by simp [hpre]) hrest r ?_
            simpa [axg] using e2
        ·cases hl
      exact key fs.toList 0 ks [] rfl rfl hf r (by simpa using he)
     ·cases h
end
section
variable {P:Program}{G:Mem}{ι:Inj}{n:Nm}
theorem Qg {t:TypeId}{x y:j5}{r:Bool}(hx:(∀k a,x≠.int k a)∧∀s,x≠.str s)(h:∀w,(Op.equal t (H6 ι x) (H6 ι y)).run P w=.ok r w)(w:World):
  (binOp .eql t (H6 ι x) (H6 ι y)).run P w=.ok (.bool r) w∧(binOp .neq t (H6 ι x) (H6 ι y)).run P w=.ok (.bool (!r)) w:=by
 have e1:binOp .eql t (H6 ι x) (H6 ι y)=(do pure (.bool (← Op.equal t (H6 ι x) (H6 ι y)))):=by
  cases x<;>simp_all [H6,binOp]
 have e2:binOp .neq t (H6 ι x) (H6 ι y)=(do pure (.bool (!(← Op.equal t (H6 ι x) (H6 ι y))))):=by
  cases x<;>simp_all [H6,binOp]
 rw [e1,e2]
 simp [h]
theorem Ey {t e:TypeId}(hu:P.underlying t=some (.pointer e)){x y:j5}{r:Bool}(he:JA x y=some r)(d:Nat)(w:World):
  (Op.equalIn (d+1) t (H6 ι x) (H6 ι y)).run P w=.ok r w:=by
 cases x<;>cases y<;>simp only [JA,U0,reduceCtorEq] at he<;>subst he<;>simp [Op.equalIn,run_underlying hu,H6]
theorem Al {t e:TypeId}(hu:P.underlying t=some (.slice e)){x y:j5}{r:Bool}(he:ku x y=some r)(d:Nat)(w:World):
  (Op.equalIn (d+1) t (H6 ι x) (H6 ι y)).run P w=.ok r w:=by
 cases x<;>cases y<;>simp only [ku,U0,reduceCtorEq] at he<;>subst he<;>simp [Op.equalIn,run_underlying hu,H6]
theorem Ez {t k e:TypeId}(hu:P.underlying t=some (.map k e)){x y:j5}{r:Bool}(he:JB x y=some r)(d:Nat)(w:World):
  (Op.equalIn (d+1) t (H6 ι x) (H6 ι y)).run P w=.ok r w:=by
 cases x<;>cases y<;>simp only [JB,U0,reduceCtorEq] at he<;>subst he<;>simp [Op.equalIn,run_underlying hu,H6]
theorem Cu {t:TypeId}{a b:Array TypeId}{c:Bool}(hu:P.underlying t=some (.func a b c)){x y:j5}{r:Bool}(he:BQ x y=some r)(d:Nat)(w:World):
  (Op.equalIn (d+1) t (H6 ι x) (H6 ι y)).run P w=.ok r w:=by
 cases x<;>cases y<;>simp only [BQ,U0,reduceCtorEq] at he<;>subst he<;>simp [Op.equalIn,run_underlying hu,H6]
theorem Am {t:TypeId}{ms:Array (String×TypeId)}(hu:P.underlying t=some (.interface ms)){x y:j5}{r:Bool}(he:jm x y=some r)(d:Nat)(w:World):
  (Op.equalIn (d+1) t (H6 ι x) (H6 ι y)).run P w=.ok r w:=by
 cases x<;>cases y<;>simp only [jm,U0,reduceCtorEq] at he<;>subst he<;>simp [Op.equalIn,run_underlying hu,H6]
theorem Cv {c:Bool}{t:TypeId}{k:EqK}(hk:eqT P c t=some k){x y:j5}{r:Bool}(he:BK k x y=some r)(d:Nat)(hd:10≤d+1)(w:World):
  (Op.equalIn (d+1) t (H6 ι x) (H6 ι y)).run P w=.ok r w:=by
 simp only [eqT] at hk
 cases hu:P.underlying t with
 | none=>simp [hu] at hk
 | some u=>
  rw [hu] at hk
  cases u<;>try (simp at hk;done)
  ·simp only [U0] at hk;subst hk;exact uw hu he d w
  ·simp only [U0] at hk;subst hk;exact pU hu he d w
  ·simp only [U0] at hk;subst hk;exact vY hu he d w
  ·simp only [U0] at hk;subst hk;exact Ey hu he d w
  ·simp only [U0] at hk;subst hk;exact Al hu he d w
  ·simp only [U0] at hk;subst hk;exact Ez hu he d w
  ·rename_i fs
   simp only at hk
   cases hf:fQ P 10 t with
   | none=>simp [hf] at hk
   | some ks=>
    simp only [hf] at hk
    split at hk
    ·cases hk
     obtain⟨l,rfl,h1⟩:=fV he
     obtain⟨m,rfl,h2⟩:=fV h1
     obtain⟨agg,ha,hsz,h3,h4⟩:=Ct (P:=P) (ι:=ι) 10 t ks hf
     rw [lF hu] at ha;cases ha
     have:=h4 (d+1) hd l m r h2 w
     simpa [mkV,H6] using this
    ·cases hk
  ·simp only [U0] at hk;subst hk;exact Cu hu he d w
  ·simp only at hk
   split at hk
   ·cases hk;exact Am hu he d w
   ·cases hk
theorem vZ {c:Bool}{t:TypeId}{k:EqK}(hk:eqT P c t=some k){x y:j5}{r:Bool}(he:BK k x y=some r)(w:World):
  (Op.equal t (H6 ι x) (H6 ι y)).run P w=.ok r w:=Cv hk he 9999 (by omega) w
theorem NH {c:Bool}{t:TypeId}{k:EqK}(hk:eqT P c t=some k)(hki:k≠.prim .i)(hks:k≠.prim .s){x y:j5}{r:Bool}(he:BK k x y=some r)(w:World):
  (binOp .eql t (H6 ι x) (H6 ι y)).run P w=.ok (.bool r) w∧(binOp .neq t (H6 ι x) (H6 ι y)).run P w=.ok (.bool (!r)) w:=by
 refine Qg ?_ (fun w=>vZ hk he w) w
 cases k<;>first
  | (rename_i p;cases p<;>first
    | exact absurd rfl hki
    | exact absurd rfl hks
    | (obtain⟨a,b,rfl,rfl,rfl⟩:=gU he;simp))
  | (obtain⟨l,rfl,_⟩:=fV he;simp)
  | (cases x<;>cases y<;>simp [BK,JA,ku,JB,BQ,jm] at he ⊢)
def mY (d:Nat)(e:TypeId)(X Y:Array Value):List Nat→Sem Bool
 | []=>pure true
 | i::l=>do
  if !(← Op.equalIn d e (← part e X (i*1)) (← part e Y (i*1))) then return false
  mY d e X Y l
theorem Ic (d:Nat)(e:TypeId)(X Y:Array Value)(l:List Nat):
  (do
   let s ← forIn l ((none,()):Option Bool×Unit) fun i _=>do
       let a ← part e X (i*1)
       let b ← part e Y (i*1)
       let r ← Op.equalIn d e a b
       if (!r)=true then pure (ForInStep.done (some false,())) else pure (ForInStep.yield (none,()))
   match s.fst with
   | some r=>pure r
   | none=>pure true:Sem Bool)=mY d e X Y l:=by
 induction l with
 | nil=>simp [mY]
 | cons f l ih=>
  rw [axC]
  simp only [mY]
  rw [← ih]
  simp only [bind_assoc]
  congr 1;funext a
  congr 1;funext b
  congr 1;funext r
  cases r<;>simp
theorem Ao {t e:TypeId}{k:Nat}(h:P.underlying t=some (.array k e))(hs:jM P e=some 1)(X Y:Array Value)(d:Nat)(w:World):
  (Op.equalIn (d+1) t (.agg X) (.agg Y)).run P w=(mY d e X Y (List.range k)).run P w:=by
 simp only [Op.equalIn,avy,run_underlying h,avs,run_sizeOf hs]
 rw [Std.Legacy.Range.forIn_eq_forIn_range']
 rw [← Ic,axB]
 simp
 congr 1
 funext a w'
 obtain⟨o,u⟩:=a
 cases o<;>rfl
theorem JY {e:TypeId}{kk:IntKind}(hu:P.underlying e=some (.int kk))(hs:jM P e=some 1)(a b:List j5)(d:Nat)(w:World):∀(j off:Nat) (r:Bool),
  dG (List.replicate j .i) (a.drop off) (b.drop off)=some r→(mY (d+1) e (H8 ι a).toArray (H8 ι b).toArray (List.range' off j)).run P w=.ok r w:=by
 intro j
 induction j with
 | zero=>
  intro off r h
  rw [List.replicate_zero,jf] at h
  cases h
  simp [mY]
 | succ j ih=>
  intro off r h
  rw [List.replicate_succ] at h
  obtain⟨x,xs,y,ys,s,h1,h2,h3,h4⟩:=gW h
  have la:off<a.length:=by have:=congrArg List.length h1;simp at this;omega
  have lb:off<b.length:=by have:=congrArg List.length h2;simp at this;omega
  have ha:=qK (P:=P) (ι:=ι) (Ak hu) hs a off (fun _=>⟨la,rfl⟩) w
  have hb:=qK (P:=P) (ι:=ι) (Ak hu) hs b off (fun _=>⟨lb,rfl⟩) w
  rw [h1] at ha
  rw [h2] at hb
  have ha:(part e (H8 ι a).toArray off).run P w=.ok (H6 ι x) w:=ha
  have hb:(part e (H8 ι b).toArray off).run P w=.ok (H6 ι y) w:=hb
  have he:=pU (ι:=ι) hu h3 d w
  rw [List.range'_succ]
  simp only [mY,awt,avy,ha,hb,he,avs]
  cases s with
  | false=>
   have h4:some false=some r:=h4
   cases h4
   simp
  | true=>
   have h4:dG (List.replicate j .i) xs ys=some r:=h4
   simp only [axM,awg,if_false]
   refine ih (off+1) r ?_
   have e1:a.drop (off+1)=xs:=by rw [← axg,h1];rfl
   have e2:b.drop (off+1)=ys:=by rw [← axg,h2];rfl
   rw [e1,e2];exact h4
theorem wh {t:TypeId}{k:EqK}(h:aeg P t=some k):∃n e kk,P.underlying t=some (.array n e)∧P.underlying e=some (.int kk)∧jM P e=some 1∧P.eqGuardType P.depth t=false∧k=.flat (List.replicate n .i):=by
 unfold aeg at h
 split at h
 ·rename_i n e hu
  split at h
  ·rename_i kk he
   split at h
   ·rename_i hc
    cases h
    exact⟨n,e,kk,hu,he,hc.1,hc.2,rfl⟩
   ·cases h
  ·cases h
 ·cases h
theorem sG {c:Bool}{t:TypeId}{k:EqK}(h:Zf P c t=some k):eqT P c t=some k∨aeg P t=some k:=by
 unfold Zf at h
 split at h
 ·rename_i k' hk;cases h;exact .inl hk
 ·exact .inr h
theorem JZ {c:Bool}{t:TypeId}{k:EqK}(hk:Zf P c t=some k)(hki:k≠.prim .i)(hks:k≠.prim .s){x y:j5}{r:Bool}(he:BK k x y=some r)(w:World):
  (binOp .eql t (H6 ι x) (H6 ι y)).run P w=.ok (.bool r) w∧(binOp .neq t (H6 ι x) (H6 ι y)).run P w=.ok (.bool (!r)) w:=by
 rcases sG hk with hk | hk
 ·exact NH hk hki hks he w
 ·obtain⟨n,e,kk,hu,hue,hs,_,rfl⟩:=wh hk
  obtain⟨l,rfl,h1⟩:=fV he
  obtain⟨m,rfl,h2⟩:=fV h1
  refine Qg (by simp) (fun w=>?_) w
  have:Op.equal t (H6 ι (.agg l)) (H6 ι (.agg m))=Op.equalIn (9999+1) t (.agg (H8 ι l).toArray) (.agg (H8 ι m).toArray):=by simp [H6,Op.equal,Op.maxDepth]
  rw [this,Ao hu hs,axB]
  exact JY hue hs l m 9998 w n 0 r (by simpa using h2)
end
section
variable {P:Program}{G:Mem}{ι:Inj}{n:Nm}{slots:List Nat}{done:List (Option Nat)}{ls:List j5}{env:T j5}{a:Act}
def Gives (P:Program)(ρ:Operand→Value)(op:Op)(v:Value):Prop:=
 ∀(o:Oper),o.op=op→∀w,(execOp ρ o).run P w=.ok (.value v) w
theorem jA {op:BinOp}(h1:op≠.eql)(h2:op≠.neq){t:TypeId}{x y:Operand}{u v:Value}{w:World}:(eqGuard op t x y u v).run P w=.ok () w:=by
 unfold eqGuard
 cases op<;>first | exact absurd rfl h1 | exact absurd rfl h2 | simp
theorem EA {op:BinOp}{t:TypeId}{x y:Operand}{u v:Array Value}{w:World}(h:P.eqGuardType P.depth t=false):(eqGuard op t x y (.agg u) (.agg v)).run P w=.ok () w:=by
 unfold eqGuard
 cases op<;>simp [h]
theorem mZ {op:BinOp}{t:TypeId}{x y:Operand}{yt:TypeId}{ρ:Operand→Value}{v:Value}
  (hg:∀w,(eqGuard op t x y (ρ x) (ρ y)).run P w=.ok () w) (h:∀w,(binOp op t (ρ x) (ρ y)).run P w=.ok v w):Gives P ρ (.binOp op t x y yt) v:=by
 intro o ho w
 simp [execOp,ho,hg,h]
theorem bind_eq {α β:Type}{o:Option α}{f:α→Option β}{b:β}(h:(o >>= f)=some b):∃a,o=some a∧f a=some b:=by
 cases o with
 | none=>cases h
 | some a=>exact⟨a,rfl,h⟩
theorem NI (p:Nat×Nat×OF)(ps:List (Nat×Nat×OF))(ls:List j5)(env:T j5)(cs:List j5):
  lay (p::ps) ls env cs=bi (Nat.beq (len' (p.2.2 ls env).cells) p.2.1) (bi (Nat.ble (Nat.add p.1 p.2.1) (len' cs)) (lay ps ls env (mM p.1 (p.2.2 ls env).cells cs)) none) none:=rfl
theorem uW (vs:List Value):∀(A:Array Value) (off i:Nat),off+i+vs.length≤A.size→
  ((vs.zipIdx i).foldl (fun cs (p:Value×Nat)=>cs.setIfInBounds (off+p.2) p.1) A).toList=A.toList.take (off+i)++(vs++A.toList.drop (off+i+vs.length)):=by
 induction vs with
 | nil=>intro A off i h;simp
 | cons v vs ih=>
  intro A off i h
  simp only [List.zipIdx_cons,ax4,awp] at h ⊢
  rw [ih _ _ _ (by simp;omega)]
  simp only [Array.toList_setIfInBounds]
  have hlt:off+i<A.toList.length:=by simp;omega
  rw [List.take_set,show off+(i+1)=off+i+1 from by omega]
  rw [List.drop_set_of_lt (by omega)]
  rw [awd hlt,List.set_append_right _ _ (by simp;omega)]
  simp [show min (off+i) A.size=off+i from by simp at hlt;omega]
  congr 1;omega
theorem wm (s:St P ι n slots done ls env a.tmps)(place:Nat→Option (Nat×Nat)):∀(parts:List (Nat×Operand)) (ps:List (Nat×Nat×Opd)),
  uj P slots done place parts=some ps→∀(cs r:List j5),ltL n cs→lay (Hu ps) ls env cs=some r→
   Instr.fill place (H8 ι cs).toArray (parts.map fun p=>(p.1,a.eval p.2))=some (H8 ι r).toArray∧ltL n r∧r.length=cs.length:=by
 intro parts
 induction parts with
 | nil=>
  intro ps h cs r hcs hr
  simp only [uj,U0] at h;subst h
  cases hr
  exact⟨rfl,hcs,rfl⟩
 | cons p parts ih=>
  intro ps h cs r hcs hr
  simp only [uj] at h
  split at h
  ·rename_i off size x rest hp hx hrest
   cases h
   simp only [Hu,NI] at hr
   obtain⟨h1,hr⟩:=L6 hr
   obtain⟨h2,hr⟩:=L6 hr
   obtain⟨e1,e2⟩:=I5 s hx
   simp only [Q5] at h1 h2
   have h1':=avt h1
   have h2':off+size≤cs.length:=avC h2
   have hlen:off+((trO x ls env).cells).length≤cs.length:=by omega
   have hov:=uo off ((trO x ls env).cells) cs hlen
   obtain⟨g1,g2,g3⟩:=ih rest hrest _ r (by
    rw [cZ] at hcs ⊢
    intro v hv
    rw [jR off _ cs (by omega)] at hv
    simp only [avN] at hv
    rcases hv with hv | hv | hv
    ·exact hcs v (awu hv)
    ·exact cZ.1 (vk e2) v hv
    ·exact hcs v (aw4 hv)) hr
   refine⟨?_,g2,by rw [g3,hov]⟩
   simp only [axt,Instr.fill,hp]
   rw [e1,kT]
   simp only [awR,aD]
   rw [if_neg (by simp [h1'];omega)]
   rw [← g1]
   congr 1
   have hf:=uW (H8 ι (trO x ls env).cells) (H8 ι cs).toArray off 0 (by simp;omega)
   apply ax0.1
   rw [← Array.foldl_toList]
   simp only [Array.toList_zipIdx]
   refine hf.trans ?_
   simp only [bH,jR off _ cs (show off≤cs.length by omega),awN,aye,ayd,axz,awl]
  ·cases h
theorem Ap:∀(fs:List Field) (pl:List (Nat×Nat)),placesOf P fs=some pl→∀w,
  ((fs.mapM fun f=>do pure (f.offset,← sizeOf f.type):Sem (List (Nat×Nat)))).run P w=.ok pl w:=by
 intro fs
 induction fs with
 | nil=>intro pl h w;simp only [placesOf,U0] at h;subst h;simp
 | cons f fs ih=>
  intro pl h w
  simp only [placesOf] at h
  split at h
  ·rename_i s r h1 h2
   cases h
   have ih':=ih r h2 w
   simp only [bind_pure_comp] at ih'
   simp [aya,run_sizeOf h1,ih']
  ·cases h
theorem EB (s:St P ι n slots done ls env a.tmps){t:TypeId}{parts:Array (Nat×Operand)}{o:AOp}(h:vQ P slots done t parts.toList=some o):
  ∃zero ps,o=.p (.build zero ps)∧∀v,trP (.build zero ps) ls env=some v→v.lt n∧Gives P a.eval (.build t parts) (H6 ι v):=by
 simp only [vQ] at h
 have harr:(parts.map fun p=>(p.1,a.eval p.2)).toList=parts.toList.map fun p=>(p.1,a.eval p.2):=by simp
 split at h
 ·rename_i zero fields hz hu
  split at h
  ·rename_i pl hpl
   split at h
   ·rename_i ps hps
    cases h
    refine⟨zero,ps,rfl,fun v hv=>?_⟩
    obtain⟨r,h1,h2⟩:=J6 hv
    cases h2
    obtain⟨z,hz1,hz2,hz3⟩:=dK (P:=P) (w:=default) hz ι
    obtain⟨g1,g2,_⟩:=wm s _ parts.toList ps hps zero r (hz3 n) h1
    refine⟨g2,fun o ho w=>?_⟩
    obtain⟨z,hz1,hz2,hz3⟩:=dK (P:=P) (w:=w) hz ι
    simp only [execOp,ho,Instr.build,avy,hz1,avs,run_underlying hu,hz2]
    have hm:=Ap (P:=P) fields.toList pl hpl w
    have hmm:(fields.mapM fun f=>do pure (f.offset,← sizeOf f.type):Sem (Array (Nat×Nat)))=Functor.map List.toArray (fields.toList.mapM fun f=>do pure (f.offset,← sizeOf f.type):Sem (List (Nat×Nat))):=by
     rw [← List.mapM_toArray]
    rw [hmm]
    simp only [Sem.run_map,hm,avs,harr]
    have hfun:(fun x:Nat=>pl.toArray[x]?)=fun i:Nat=>pl[i]?:=by funext i;simp
    rw [hfun,g1]
    simp [H6]
   ·cases h
  ·cases h
 ·rename_i zero k elem hz hu
  split at h
  ·rename_i sz hsz
   split at h
   ·rename_i ps hps
    cases h
    refine⟨zero,ps,rfl,fun v hv=>?_⟩
    obtain⟨r,h1,h2⟩:=J6 hv
    cases h2
    obtain⟨z,hz1,hz2,hz3⟩:=dK (P:=P) (w:=default) hz ι
    obtain⟨g1,g2,_⟩:=wm s _ parts.toList ps hps zero r (hz3 n) h1
    refine⟨g2,fun o ho w=>?_⟩
    obtain⟨z,hz1,hz2,hz3⟩:=dK (P:=P) (w:=w) hz ι
    simp only [execOp,ho,Instr.build,avy,hz1,avs,run_underlying hu,hz2,run_sizeOf hsz,harr]
    rw [g1]
    simp [H6]
   ·cases h
  ·cases h
 ·cases h
end
section
variable {P:Program}{G:Mem}{ι:Inj}{n:Nm}{slots:List Nat}{done:List (Option Nat)}{ls:List j5}{env:T j5}{a:Act}
theorem uy {α:Type}(p q:Nat)(x y:α):bi (Nat.beq p q) x y=if p=q then x else y:=by
 by_cases h:p=q
 ·subst h;rw [awU,if_pos rfl];rfl
 ·rw [show Nat.beq p q=false from avO.2 fun e=>h (avt e),if_neg h];rfl
theorem P9 {l:List j5}{v:j5}(h:ltL n l)(hv:v∈l):v.lt n:=cZ.1 h v hv
def Aq (sz:Option Nat)(l:List j5)(o:Nat):Option j5:=match sz with
 | none=>l[o]?
 | some k=>ob (takeN k (l.drop o)) fun r=>some (.agg r)
theorem zw {t:TypeId}{sz:Option Nat}(ht:partT P t=some sz){l:List j5}(hl:ltL n l)(o:Nat){v:j5}
  (hv:Aq sz l o=some v):
  v.lt n∧∀w,(part t (H8 ι l).toArray o).run P w=.ok (H6 ι v) w:=by
 rcases zq ht with⟨rfl,ha,k,hk⟩ | ⟨k,rfl,ha,hk⟩
 ·simp only [Aq] at hv
  refine⟨P9 hl (avG hv),fun w=>?_⟩
  simp [part,mU ha,aZ,hv]
 ·simp only [Aq] at hv
  obtain⟨r,h1,h2⟩:=J6 hv
  cases h2
  obtain⟨rfl,_⟩:=jd _ _ _ h1
  refine⟨cZ.2 fun v hv=>P9 hl (aw4 (awu hv)),fun w=>?_⟩
  simp [part,mU ha,run_sizeOf hk,H6,bH,aye,ayd]
theorem Cw (s:St P ι n slots done ls env a.tmps){x:Option Operand}{o:Option Opd}(h:cOpt P slots done x=some o):
  (x=none∧o=none)∨∃y z,x=some y∧o=some z∧a.eval y=H6 ι (trO z ls env):=by
 cases x with
 | none=>simp only [cOpt,U0] at h;exact .inl ⟨rfl,h.symm⟩
 | some y=>
  simp only [cOpt] at h
  cases hy:bK P slots done y with
  | none=>simp [hy] at h
  | some z=>
   simp only [hy,U0] at h
   exact .inr ⟨y,z,rfl,h.symm,(I5 s hy).1⟩
theorem ng (s:St P ι n slots done ls env a.tmps){lo hi:Option Operand}{lo' hi':Option Opd}(hlo:cOpt P slots done lo=some lo')(hhi:cOpt P slots done hi=some hi')
  {β:Type} {k:Nat→Nat→Option β} {d:Nat} {r:β} (h:fP (su lo') 0 ls env (fun l=>fP (su hi') d ls env fun h=>k l h)=some r):
  ∃l h,k l h=some r∧(hi=none→h=d)∧(lo=none→l=0)∧
   (∀(isSlice:Bool) (len cap:Nat) (w:World),len=d→l≤h→h≤cap→(Instr.sliceBounds isSlice len cap (lo.map a.eval) (hi.map a.eval) none).run P w=.ok (l,h,cap) w):=by
 rcases Cw s hlo with⟨rfl,rfl⟩ | ⟨y,z,rfl,rfl,hy⟩<;>rcases Cw s hhi with⟨rfl,rfl⟩ | ⟨y',z',rfl,rfl,hy'⟩
 ·exact⟨0,d,h,fun _=>rfl,fun _=>rfl,fun is len cap w he _ _=>by subst he;simp [Instr.sliceBounds]⟩
 ·obtain⟨i,m,h1,h2⟩:=eU h
  refine⟨0,m,h2,(by simp),(by simp),fun is len cap w he h1' h2'=>?_⟩
  have h1:trO z' ls env=.int i (m:Int):=h1
  simp only [awn,axa,hy',h1,H6,Instr.sliceBounds,Instr.sliceBound,asIntOf]
  cases is<;>simp [h2']
 ·obtain⟨i,m,h1,h2⟩:=eU h
  refine⟨m,d,h2,(by simp),(by simp),fun is len cap w he h1' h2'=>?_⟩
  have h1:trO z ls env=.int i (m:Int):=h1
  subst he
  simp only [awn,axa,hy,h1,H6,Instr.sliceBounds,Instr.sliceBound,asIntOf]
  simp [h1']
 ·obtain⟨i,m,h1,h2⟩:=eU h
  obtain⟨i',m',h3,h4⟩:=eU h2
  refine⟨m,m',h4,(by simp),(by simp),fun is len cap w he h1' h2'=>?_⟩
  have h1:trO z ls env=.int i (m:Int):=h1
  have h3:trO z' ls env=.int i' (m':Int):=h3
  simp only [awn,hy,h1,hy',h3,H6,Instr.sliceBounds,Instr.sliceBound,asIntOf]
  cases is<;>simp [h1',h2']
theorem qL {t e:TypeId}{es:Nat}(hu:P.underlying t=some (.slice e))(hs:jM P e=some es)(ad:Addr)(len cap:Nat)(k:IntKind)(i:Nat)(hi:i<len)(w:World):
  (Instr.indexAt t (.slice (some ad) len cap) (.int k (i:Int))).run P w=.ok (.pointer (some (ad.add (i*es)))) w:=by
 simp [Instr.indexAt,asIntOf,run_underlying hu,run_sizeOf hs,hi]
theorem Ar {t e:TypeId}{es len:Nat}(hu:P.underlying t=some (.array len e))(hs:jM P e=some es)(ad:Addr)(k:IntKind)(i:Nat)(hi:i<len)(w:World):
  (Instr.indexAt t (.pointer (some ad)) (.int k (i:Int))).run P w=.ok (.pointer (some (ad.add (i*es)))) w:=by
 simp [Instr.indexAt,asIntOf,run_underlying hu,run_sizeOf hs,hi,Instr.sureAddr]
theorem Gh (mx:Bool):∀(ys:List j5) (x v:j5),ltL n ys→x.lt n→JE mx ys x=some v→v.lt n∧
  ∀w,((H8 ι ys).foldlM (if mx then Builtin.max2 else Builtin.min2) (H6 ι x)).run P w=.ok (H6 ι v) w:=by
 intro ys
 induction ys with
 | nil=>intro x v _ hx h;cases h;exact⟨hx,fun w=>by simp [H8]⟩
 | cons y ys ih=>
  intro x v hys hx h
  have h:ob (mm2 mx x y) (fun z=>JE mx ys z)=some v:=h
  obtain⟨z,h1,h2⟩:=J6 h
  simp only [mm2] at h1
  obtain⟨k,p,e1,h1⟩:=kC h1
  obtain⟨k',q,e2,h1⟩:=kC h1
  cases h1
  obtain⟨g1,g2⟩:=ih _ v hys.2 (by simp [j5.lt]) h2
  refine⟨g1,fun w=>?_⟩
  subst e1;subst e2
  simp only [H8,List.foldlM_cons,avy,H6]
  have:((if mx=true then Builtin.max2 else Builtin.min2) (.int k p) (.int k' q)).run P w=.ok (.int k (bi mx (bi (oK p q) q p) (bi (oK q p) q p))) w:=by
   cases mx
   ·simp only [awg,if_false,Builtin.min2,avP,aY,fU]
    by_cases hlt:q<p
    ·simp [hlt]
    ·simp [hlt]
   ·simp only [if_true,Builtin.max2,avP,aJ,fU]
    by_cases hlt:p<q
    ·simp [hlt]
    ·simp [hlt]
  rw [this]
  exact g2 w
end
section
variable {P:Program}{G:Mem}{ι:Inj}{n:Nm}{slots:List Nat}{done:List (Option Nat)}{ls:List j5}{env:T j5}{a:Act}
theorem bN {x y:POp}(h:(pure (AOp.p x):Option AOp)=some (.p y)):x=y:=by cases h;rfl
set_option maxHeartbeats 1000000 in
theorem nY (s:St P ι n slots done ls env a.tmps){op:Op}{po:POp}(h:cOp P slots done op=some (.p po)){v:j5}(hv:trP po ls env=some v):
  v.lt n∧Gives P a.eval op (H6 ι v):=by
 cases op with
 | move x=>
  obtain⟨x',hx,h⟩:=bind_eq h
  obtain rfl:=bN h
  cases hv
  obtain⟨e1,e2⟩:=I5 s hx
  exact⟨e2,fun o ho w=>by simp [execOp,ho,e1]⟩
 | assign x=>
  obtain⟨x',hx,h⟩:=bind_eq h
  obtain rfl:=bN h
  cases hv
  obtain⟨e1,e2⟩:=I5 s hx
  exact⟨e2,fun o ho w=>by simp [execOp,ho,e1]⟩
 | pick c x y=>
  obtain⟨c',hc,h⟩:=bind_eq h
  obtain⟨x',hx,h⟩:=bind_eq h
  obtain⟨y',hy,h⟩:=bind_eq h
  obtain rfl:=bN h
  obtain⟨b,h1,h2⟩:=nS hv
  have h1:trO c' ls env=.bool b:=h1
  obtain⟨e1,_⟩:=I5 s hc
  obtain⟨e2,e2'⟩:=I5 s hx
  obtain⟨e3,e3'⟩:=I5 s hy
  rw [h1] at e1
  cases b with
  | true=>cases h2;exact⟨e2',fun o ho w=>by simp [execOp,ho,e1,e2,H6,asBool]⟩
  | false=>cases h2;exact⟨e3',fun o ho w=>by simp [execOp,ho,e1,e3,H6,asBool]⟩
 | build t parts=>
  obtain⟨zero,ps,e,hb⟩:=EB s (show vQ P slots done t parts.toList=some (.p po) from h)
  cases e
  exact hb v hv
 | nilCheck x=>
  obtain⟨x',hx,h⟩:=bind_eq h
  obtain rfl:=bN h
  obtain⟨e1,e2⟩:=I5 s hx
  have hv:zi (trO x' ls env)=some v:=hv
  generalize trO x' ls env=u at *
  have:v=u∧∀o:Oper,o.op=.nilCheck x→∀w,(execOp a.eval o).run P w=.ok (.value (H6 ι u)) w:=by
   cases u<;>simp only [zi,U0,reduceCtorEq] at hv<;>try (refine⟨hv.symm,fun o ho w=>?_⟩;simp [execOp,ho,e1,H6];done)
   rename_i fn p q
   cases fn<;>simp only [U0,reduceCtorEq] at hv
   refine⟨hv.symm,fun o ho w=>?_⟩
   simp [execOp,ho,e1,H6,jw]
  obtain⟨rfl,h2⟩:=this
  exact⟨e2,h2⟩
 | binOp op t x y yt=>
  simp only [cOp] at h
  by_cases h1:op=.eql∨op=.neq
  ·have hh:∃k x' y',Zf P (xM x||xM y) t=some k∧bK P slots done x=some x'∧bK P slots done y=some y'∧
     ((k=.prim .i∨k=.prim .s)∧po=.ib op x' y'∨(k≠.prim .i∧k≠.prim .s)∧po=.eq (decide (op=.neq)) k x' y'):=by
    rcases h1 with rfl | rfl <;>
    ·simp only at h
     obtain⟨k,hk,h⟩:=bind_eq h
     cases k with
     | prim p=>
      cases p <;>
      ·simp only at h
       obtain⟨x',hx,h⟩:=bind_eq h
       obtain⟨y',hy,h⟩:=bind_eq h
       have:=bN h
       exact⟨_,x',y',hk,hx,hy,by simp [this]⟩
     | _=>
      simp only at h
      obtain⟨x',hx,h⟩:=bind_eq h
      obtain⟨y',hy,h⟩:=bind_eq h
      have:=bN h
      exact⟨_,x',y',hk,hx,hy,by simp [this]⟩
   obtain⟨k,x',y',hk,hx,hy,hh⟩:=hh
   obtain⟨e1,_⟩:=I5 s hx
   obtain⟨e2,_⟩:=I5 s hy
   rcases hh with⟨_,rfl⟩ | ⟨⟨hk1,hk2⟩,rfl⟩
   ·have hs1:op≠.shl:=by rcases h1 with rfl | rfl<;>simp
    have hs2:op≠.shr:=by rcases h1 with rfl | rfl<;>simp
    have hv:Jo (Nv op) (Nw op) (trO x' ls env) (trO y' ls env)=some v:=by
     rcases h1 with rfl | rfl<;>exact hv
    refine⟨(nV (P:=P) (ι:=ι) hs1 hs2 hv t default).2,mZ (fun w=>?_) (fun w=>by rw [e1,e2];exact (nV (n:=n) hs1 hs2 hv t w).1)⟩
    rw [e1,e2]
    rcases JW hv with⟨k,p,hf⟩ | ⟨p,hf⟩<;>rw [hf]<;>exact nT (by simp [H6]) (by simp [H6])
   ·have hv:∃r,BK k (trO x' ls env) (trO y' ls env)=some r∧v=.bool (if op=.neq then !r else r):=by
     rcases h1 with rfl | rfl <;>
     ·obtain⟨r,h1,h2⟩:=J6 hv
      cases h2
      exact⟨r,h1,rfl⟩
    obtain⟨r,hr,rfl⟩:=hv
    refine⟨by simp [j5.lt],mZ (fun w=>?_) (fun w=>?_)⟩
    ·rw [e1,e2]
     cases k with
     | prim p=>
      cases p with
      | b=>obtain⟨p,q,h3,h4,_⟩:=gU hr;rw [h3,h4];exact nT (by simp [H6]) (by simp [H6])
      | i=>exact absurd rfl hk1
      | s=>exact absurd rfl hk2
     | flat ks=>
      obtain⟨l,h3,h4⟩:=fV hr
      obtain⟨m,h5,h6⟩:=fV h4
      rw [h3,h5]
      refine EA ?_
      rcases (sG hk).symm with hk | hk
      ·obtain⟨_,_,_,_,_,_,h7,_⟩:=wh hk
       exact h7
      simp only [eqT] at hk
      split at hk<;>first | (simp at hk;done) | skip
      ·split at hk
       ·split at hk
        ·assumption
        ·cases hk
       ·cases hk
     | iface=>
      have hc:xM x=true∨xM y=true:=by
       rcases (sG hk).symm with hk | hk
       ·obtain⟨_,_,_,_,_,_,_,h7⟩:=wh hk
        cases h7
       simp only [eqT] at hk
       split at hk<;>first | (simp at hk;done) | skip
       ·split at hk
        ·split at hk<;>simp at hk
        ·simp at hk
       ·split at hk
        ·rename_i hc;simpa using hc
        ·simp at hk
      exact nT (fun p q=>by cases hx:trO x' ls env<;>simp_all [BK,jm,H6]) (hc.elim (fun h=>.inr (.inr (.inl h))) (fun h=>.inr (.inr (.inr h))))
     | _=>
      refine nT (fun p q=>?_) (.inl ?_)<;>cases hx:trO x' ls env<;>simp_all [BK,JA,ku,JB,BQ,H6]
    ·rw [e1,e2]
     have:=JZ hk hk1 hk2 (ι:=ι) hr w
     rcases h1 with rfl | rfl
     ·simpa [H6] using this.1
     ·simpa [H6] using this.2
  ·have hne:op≠.eql∧op≠.neq:=⟨fun e=>h1 (.inl e),fun e=>h1 (.inr e)⟩
   have hh:∃x' y',bK P slots done x=some x'∧bK P slots done y=some y'∧po=.ib op x' y':=by
    cases op<;>first
     | exact absurd rfl hne.1
     | exact absurd rfl hne.2
     | (simp only at h
        obtain⟨x',hx,h⟩:=bind_eq h
        obtain⟨y',hy,h⟩:=bind_eq h
        exact⟨x',y',hx,hy,(bN h).symm⟩)
   obtain⟨x',y',hx,hy,rfl⟩:=hh
   obtain⟨e1,_⟩:=I5 s hx
   obtain⟨e2,_⟩:=I5 s hy
   by_cases hs1:op=.shl
   ·subst hs1
    refine⟨(Cn (P:=P) (ι:=ι) hv t default).2,mZ (fun w=>jA (by simp) (by simp)) (fun w=>by rw [e1,e2];exact (Cn (n:=n) hv t w).1)⟩
   ·by_cases hs2:op=.shr
    ·subst hs2
     refine⟨(Co (P:=P) (ι:=ι) hv t default).2,mZ (fun w=>jA (by simp) (by simp)) (fun w=>by rw [e1,e2];exact (Co (n:=n) hv t w).1)⟩
    ·have hv:Jo (Nv op) (Nw op) (trO x' ls env) (trO y' ls env)=some v:=by
      cases op<;>first | exact absurd rfl hs1 | exact absurd rfl hs2 | exact hv
     exact⟨(nV (P:=P) (ι:=ι) hs1 hs2 hv t default).2,mZ (fun w=>jA hne.1 hne.2) (fun w=>by rw [e1,e2];exact (nV (n:=n) hs1 hs2 hv t w).1)⟩
 | unOp op t x=>
  have hh:∃x',bK P slots done x=some x'∧(op=.not∧po=.not x'∨op=.neg∧po=.neg x'):=by
   simp only [cOp] at h
   cases op<;>simp only at h<;>first
    | (cases h;done)
    | (obtain⟨x',hx,h⟩:=bind_eq h
       exact⟨x',hx,by simp [bN h]⟩)
  obtain⟨x',hx,hh⟩:=hh
  obtain⟨e1,_⟩:=I5 s hx
  rcases hh with⟨rfl,rfl⟩ | ⟨rfl,rfl⟩
  ·obtain⟨b,h1,h2⟩:=nS hv
   have h1:trO x' ls env=.bool b:=h1
   cases h2
   exact⟨by simp [j5.lt],fun o ho w=>by simp [execOp,ho,e1,h1,H6,Op.unary]⟩
  ·obtain⟨k,m,h1,h2⟩:=kC hv
   have h1:trO x' ls env=.int k m:=h1
   cases h2
   exact⟨by simp [j5.lt],fun o ho w=>by simp [execOp,ho,e1,h1,H6,Op.unary,Op.intArith,qJ]⟩
 | convert src dst x=>
  simp only [cOp] at h
  obtain⟨us,hus,h⟩:=bind_eq h
  obtain⟨ud,hud,h⟩:=bind_eq h
  have hh:∃x',bK P slots done x=some x'∧∃j k,us=.int j∧ud=.int k∧po=.conv k x':=by
   split at h
   ·obtain⟨x',hx,h⟩:=bind_eq h
    exact⟨x',hx,_,_,rfl,rfl,(bN h).symm⟩
   ·obtain⟨ue,_,h⟩:=bind_eq h
    split at h
    ·obtain⟨x',hx,h⟩:=bind_eq h;cases h
    ·cases h
   ·obtain⟨ue,_,h⟩:=bind_eq h
    split at h
    ·obtain⟨x',hx,h⟩:=bind_eq h;cases h
    ·cases h
   ·cases h
  obtain⟨x',hx,j,k,rfl,rfl,rfl⟩:=hh
  obtain⟨e1,e2⟩:=I5 s hx
  obtain⟨k',m,h1,h2⟩:=kC hv
  have h1:trO x' ls env=.int k' m:=h1
  cases h2
  exact⟨by simp [j5.lt],fun o ho w=>by simp [execOp,ho,convert,run_underlying hus,run_underlying hud,e1,h1,H6,Conv.intToInt,qJ]⟩
 | makeInterface t x=>
  simp only [cOp] at h
  obtain⟨u,hu,h⟩:=bind_eq h
  have hh:∃x',bK P slots done x=some x'∧po=.mkIface t x'∧∀ms,u≠.interface ms:=by
   split at h
   ·cases h
   ·rename_i hne
    obtain⟨x',hx,h⟩:=bind_eq h
    exact⟨x',hx,(bN h).symm,fun ms e=>hne ms e⟩
  obtain⟨x',hx,rfl,hne⟩:=hh
  obtain⟨e1,e2⟩:=I5 s hx
  cases hv
  refine⟨by simpa [j5.lt] using e2,fun o ho w=>?_⟩
  simp only [execOp,ho,Instr.makeInterface,avy,run_underlying hu,avs,e1]
  cases u<;>first | exact absurd rfl (hne _) | simp [H6]
 | typeAssert x xt t ok=>
  simp only [cOp] at h
  obtain⟨u,hu,h⟩:=bind_eq h
  have hh:∃z x',zeroV P t=some z∧bK P slots done x=some x'∧po=.assert t z ok x'∧∀ms,u≠.interface ms:=by
   split at h
   ·cases h
   ·rename_i hne
    obtain⟨z,hz,h⟩:=bind_eq h
    obtain⟨x',hx,h⟩:=bind_eq h
    exact⟨z,x',hz,hx,(bN h).symm,fun ms e=>hne ms e⟩
  obtain⟨z,x',hz,hx,rfl,hne⟩:=hh
  obtain⟨e1,e2⟩:=I5 s hx
  have hv1:JF t z ok (trO x' ls env)=some v:=hv
  clear hv
  generalize trO x' ls env=y at *
  cases y with
  | nilIface=>
   cases ok with
   | false=>cases hv1
   | true=>
    have hv1:some (j5.tuple [z,.bool false])=some v:=hv1
    cases hv1
    refine⟨⟨(mV (w:=default) hz ι).2 n,trivial,trivial⟩,fun o ho w=>?_⟩
    have hz1:=(mV (w:=w) hz ι).1
    simp only [execOp,ho,Instr.typeAssert,avy,run_underlying hu,avs,e1,H6]
    cases u<;>first | exact absurd rfl (hne _) | simp [hz1,H8,H6]
  | iface t' y=>
   have hv1:bi (Nat.beq t' t) (some (bi ok (.tuple [y,.bool true]) y)) (bi ok (some (.tuple [z,.bool false])) none)=some v:=hv1
   cases hb:Nat.beq t' t with
   | true=>
    have he:=avt hb
    rw [hb] at hv1
    have hv1:some (bi ok (.tuple [y,.bool true]) y)=some v:=hv1
    cases ok with
    | false=>
     have hv1:some y=some v:=hv1
     cases hv1
     refine⟨e2,fun o ho w=>?_⟩
     simp only [execOp,ho,Instr.typeAssert,avy,run_underlying hu,avs,e1,H6]
     cases u<;>first | exact absurd rfl (hne _) | simp [he]
    | true=>
     have hv1:some (j5.tuple [y,.bool true])=some v:=hv1
     cases hv1
     refine⟨⟨e2,trivial,trivial⟩,fun o ho w=>?_⟩
     simp only [execOp,ho,Instr.typeAssert,avy,run_underlying hu,avs,e1,H6]
     cases u<;>first | exact absurd rfl (hne _) | simp [he,H8,H6]
   | false=>
    have he:t'≠t:=Nat.ne_of_beq_eq_false hb
    rw [hb] at hv1
    cases ok with
    | false=>cases hv1
    | true=>
     have hv1:some (j5.tuple [z,.bool false])=some v:=hv1
     cases hv1
     refine⟨⟨(mV (w:=default) hz ι).2 n,trivial,trivial⟩,fun o ho w=>?_⟩
     have hz1:=(mV (w:=w) hz ι).1
     simp only [execOp,ho,Instr.typeAssert,avy,run_underlying hu,avs,e1,H6]
     cases u<;>first | exact absurd rfl (hne _) | simp [hz1,he,H8,H6]
  | _=>cases hv1
 | makeFunc fn f c=>
  simp only [cOp] at h
  have hh:∃g f' c',fn=.func g∧kS P slots done f.toList=some f'∧kS P slots done c.toList=some c'∧po=.mkFunc (.func g) f' c':=by
   split at h
   ·obtain⟨f',hf,h⟩:=bind_eq h
    obtain⟨c',hc,h⟩:=bind_eq h
    exact⟨_,f',c',rfl,hf,hc,(bN h).symm⟩
   ·cases h
  obtain⟨g,f',c',rfl,hf,hc,rfl⟩:=hh
  cases hv
  obtain⟨e1,e2⟩:=je s hf
  obtain⟨e3,e4⟩:=je s hc
  refine⟨⟨trivial,e2,e4⟩,fun o ho w=>?_⟩
  have q1:f.map a.eval=(H8 ι (evs (mE f') ls env)).toArray:=by apply ax0.1;rw [axX];exact e1
  have q2:c.map a.eval=(H8 ι (evs (mE c') ls env)).toArray:=by apply ax0.1;rw [axX];exact e3
  simp [execOp,ho,Instr.makeFunc,q1,q2,H6,jw]
 | slice t x lo hi mx=>
  simp only [cOp] at h
  cases mx with
  | some _=>simp at h
  | none=>
  simp only at h
  obtain⟨u,hu,h⟩:=bind_eq h
  split at h
  ·obtain⟨x',hx,h⟩:=bind_eq h
   obtain⟨lo',hlo,h⟩:=bind_eq h
   obtain⟨hi',hhi,h⟩:=bind_eq h
   obtain rfl:=bN h
   obtain⟨e1,e2⟩:=I5 s hx
   obtain⟨str,h1,h2⟩:=mX hv
   have h1:trO x' ls env=.str str:=h1
   obtain⟨l,h,h3,_,_,h4⟩:=ng s hlo hhi h2
   obtain⟨g1,h3⟩:=L6 h3
   obtain⟨g2,h3⟩:=L6 h3
   obtain⟨r,h5,h6⟩:=J6 h3
   cases h6
   have g1:=avC g1
   have g2:=avC g2
   simp only [Q5,eO] at *
   obtain⟨rfl,_⟩:=jd _ _ _ h5
   refine⟨by simp [j5.lt],fun o ho w=>?_⟩
   simp only [execOp,ho,Instr.sliceAt,avy,run_underlying hu,avs,Instr.slice,e1,h1,H6]
   simp only [axa,Option.isSome_none,awg,if_false,avy,nU,avP,avs]
   rw [h4 false str.length str.length w rfl g1 g2]
   simp only [avs,avP]
   congr 3
   apply ByteArray.ext
   simp [ByteArray.data_extract,aw6]
  ·obtain⟨es,_,h⟩:=bind_eq h
   obtain⟨x',hx,h⟩:=bind_eq h
   obtain⟨lo',hlo,h⟩:=bind_eq h
   obtain⟨hi',hhi,h⟩:=bind_eq h
   cases h
  ·rename_i n' e'
   obtain⟨es,hes,h⟩:=bind_eq h
   obtain⟨x',hx,h⟩:=bind_eq h
   obtain⟨lo',hlo,h⟩:=bind_eq h
   obtain⟨hi',hhi,h⟩:=bind_eq h
   obtain rfl:=bN h
   obtain⟨e1,e2⟩:=I5 s hx
   obtain⟨i,o,h1,h2⟩:=iQ hv
   have h1:trO x' ls env=.ptr i o:=h1
   rw [h1] at e1 e2
   obtain⟨l,h,h3,_,_,h4⟩:=ng s hlo hhi h2
   obtain⟨g1,h3⟩:=L6 h3
   obtain⟨g2,h3⟩:=L6 h3
   cases h3
   have g1:=avC g1
   have g2:=avC g2
   refine⟨e2,fun op ho w=>?_⟩
   simp only [execOp,ho,Instr.sliceAt,avy,run_underlying hu,avs,e1,H6,Instr.sureAddr,avP,axa]
   rw [h4 false _ _ w rfl g1 g2]
   simp only [avs,avy,run_sizeOf hes,avP]
   rw [uy,Inj.mW]
   by_cases hl:n'=l
   ·rw [if_pos hl,if_pos hl.symm];rfl
   ·rw [if_neg hl,if_neg (fun e=>hl e.symm)];rfl
  ·cases h
 | fieldAddr t x f=>
  simp only [cOp] at h
  obtain⟨u,hu,h⟩:=bind_eq h
  have hh:∃fs fd x' sz,u=.struct fs∧fs[f]?=some fd∧jM P fd.type=some sz∧sz≠0∧bK P slots done x=some x'∧po=.fAddr fd.offset x':=by
   split at h
   ·obtain⟨fd,hf,h⟩:=bind_eq h
    obtain⟨sz,hsz,h⟩:=bind_eq h
    split at h
    ·cases h
    ·obtain⟨x',hx,h⟩:=bind_eq h
     exact⟨_,fd,x',sz,rfl,hf,hsz,by assumption,hx,(bN h).symm⟩
   ·cases h
  obtain⟨fs,fd,x',sz,rfl,hf,hsz,hne,hx,rfl⟩:=hh
  obtain⟨e1,e2⟩:=I5 s hx
  obtain⟨i,o,h1,h2⟩:=iQ hv
  have h1:trO x' ls env=.ptr i o:=h1
  cases h2
  rw [h1] at e1 e2
  refine⟨e2,fun op ho w=>?_⟩
  simp only [execOp,ho,Instr.fieldAt,avy,run_underlying hu,avs,hf,e1,H6,Instr.sureAddr,avP,fieldPlace,run_sizeOf hsz,if_neg hne,Inj.mW]
  rfl
 | field t x f=>
  simp only [cOp] at h
  obtain⟨u,hu,h⟩:=bind_eq h
  have hh:∃fs fd x' sz,u=.struct fs∧fs[f]?=some fd∧partT P fd.type=some sz∧bK P slots done x=some x'∧po=.fld fd.offset sz x':=by
   split at h
   ·obtain⟨fd,hf,h⟩:=bind_eq h
    obtain⟨sz,hsz,h⟩:=bind_eq h
    obtain⟨x',hx,h⟩:=bind_eq h
    exact⟨_,fd,x',sz,rfl,hf,hsz,hx,(bN h).symm⟩
   ·cases h
  obtain⟨fs,fd,x',sz,rfl,hf,hsz,hx,rfl⟩:=hh
  obtain⟨e1,e2⟩:=I5 s hx
  have hv':∃l,trO x' ls env=.agg l∧Aq sz l fd.offset=some v:=by
   cases sz with
   | none=>obtain⟨l,h1,h2⟩:=fV hv;exact⟨l,h1,by simpa [Aq] using h2⟩
   | some k=>obtain⟨l,h1,h2⟩:=fV hv;exact⟨l,h1,by simpa [Aq] using h2⟩
  obtain⟨l,h1,h2⟩:=hv'
  rw [h1] at e1 e2
  obtain⟨g1,g2⟩:=zw (ι:=ι) hsz (show ltL n l from e2) fd.offset h2
  refine⟨g1,fun op ho w=>?_⟩
  simp [execOp,ho,Instr.field,run_underlying hu,hf,e1,H6,asAgg,g2]
 | indexAddr t x i=>
  simp only [cOp] at h
  obtain⟨u,hu,h⟩:=bind_eq h
  split at h
  ·obtain⟨es,hes,h⟩:=bind_eq h
   obtain⟨x',hx,h⟩:=bind_eq h
   obtain⟨i',hi,h⟩:=bind_eq h
   obtain rfl:=bN h
   obtain⟨e1,e2⟩:=I5 s hx
   obtain⟨e3,_⟩:=I5 s hi
   rcases uq hv with⟨_,h2⟩ | ⟨id,off,len,cap,h1,h2⟩ | ⟨id,off,len,es',h1,h2⟩
   ·cases h2
   ·obtain⟨k,m,h3,hlt,h4⟩:=idx_eq h2
    cases h4
    have h1:trO x' ls env=.slice id off len cap:=h1
    have h3:trO i' ls env=.int k (m:Int):=h3
    rw [h1] at e1 e2
    refine⟨e2,fun op ho w=>?_⟩
    simp only [execOp,ho,avy,e1,e3,h3,H6,qL hu hes _ _ _ _ _ hlt,Inj.mW,avs,avP]
    rfl
   ·obtain⟨k,m,h3,hlt,h4⟩:=idx_eq h2
    cases h4
    have h1:trO x' ls env=.sliceU id off len es':=h1
    have h3:trO i' ls env=.int k (m:Int):=h3
    rw [h1] at e1 e2
    refine⟨e2.1,fun op ho w=>?_⟩
    simp only [execOp,ho,avy,e1,e3,h3,H6,qL hu hes _ _ _ _ _ hlt,Inj.mW,avs,avP]
    rfl
  ·obtain⟨es,hes,h⟩:=bind_eq h
   obtain⟨x',hx,h⟩:=bind_eq h
   obtain⟨i',hi,h⟩:=bind_eq h
   obtain rfl:=bN h
   obtain⟨e1,e2⟩:=I5 s hx
   obtain⟨e3,_⟩:=I5 s hi
   obtain⟨id,off,h1,h2⟩:=iQ hv
   obtain⟨k,m,h3,hlt,h4⟩:=idx_eq h2
   cases h4
   have h1:trO x' ls env=.ptr id off:=h1
   have h3:trO i' ls env=.int k (m:Int):=h3
   rw [h1] at e1 e2
   refine⟨e2,fun op ho w=>?_⟩
   simp only [execOp,ho,avy,e1,e3,h3,H6,Ar hu hes _ _ _ hlt,Inj.mW,avs,avP]
   rfl
  ·cases h
 | index t x i=>
  simp only [cOp] at h
  obtain⟨u,hu,h⟩:=bind_eq h
  split at h
  ·obtain⟨x',hx,h⟩:=bind_eq h
   obtain⟨i',hi,h⟩:=bind_eq h
   obtain rfl:=bN h
   obtain⟨e1,e2⟩:=I5 s hx
   obtain⟨e3,_⟩:=I5 s hi
   obtain⟨str,h1,h2⟩:=mX hv
   obtain⟨k,m,h3,h4⟩:=eU h2
   obtain⟨b,h5,h6⟩:=J6 h4
   cases h6
   have h1:trO x' ls env=.str str:=h1
   have h3:trO i' ls env=.int k (m:Int):=h3
   rw [jv] at h5
   refine⟨by simp [j5.lt],fun op ho w=>?_⟩
   obtain⟨hlt,hb⟩:=S9.1 h5
   have hidx:(⟨str.toArray⟩:ByteArray)[m]?=some b:=by
    rw [ByteArray.getElem?_lt' _ _ (by rw [nU];exact hlt)]
    congr 1
   simp only [execOp,ho,Instr.index,avy,run_underlying hu,e1,h1,e3,h3,H6,asIntOf,avP,avs]
   rw [if_pos (Int.natCast_nonneg m),axR,hidx]
   rfl
  ·rename_i len elem
   obtain⟨es,hes,h⟩:=bind_eq h
   obtain⟨sz,hsz,h⟩:=bind_eq h
   obtain⟨x',hx,h⟩:=bind_eq h
   obtain⟨i',hi,h⟩:=bind_eq h
   obtain rfl:=bN h
   obtain⟨e1,e2⟩:=I5 s hx
   obtain⟨e3,_⟩:=I5 s hi
   have hv':∃l k,∃m:Nat,trO x' ls env=.agg l∧trO i' ls env=.int k (m:Int)∧m<len∧Aq sz l (m*es)=some v:=by
    cases sz with
    | none=>
     obtain⟨l,h1,h2⟩:=fV hv
     obtain⟨k,m,h3,hlt,h4⟩:=idx_eq h2
     exact⟨l,k,m,h1,h3,hlt,by simpa [Aq] using h4⟩
    | some k=>
     obtain⟨l,h1,h2⟩:=fV hv
     obtain⟨k',m,h3,hlt,h4⟩:=idx_eq h2
     exact⟨l,k',m,h1,h3,hlt,by simpa [Aq] using h4⟩
   obtain⟨l,k,m,h1,h3,hlt,h2⟩:=hv'
   rw [h1] at e1 e2
   obtain⟨g1,g2⟩:=zw (ι:=ι) hsz (show ltL n l from e2) (m*es) h2
   refine⟨g1,fun op ho w=>?_⟩
   simp [execOp,ho,Instr.index,run_underlying hu,run_sizeOf hes,e1,e3,h3,H6,asIntOf,hlt,g2]
  ·cases h
 | extract x i=>
  simp only [cOp] at h
  obtain⟨x',hx,h⟩:=bind_eq h
  obtain rfl:=bN h
  obtain⟨e1,e2⟩:=I5 s hx
  obtain⟨l,h1,h2⟩:=RY hv
  have h1:trO x' ls env=.tuple l:=h1
  rw [jv] at h2
  rw [h1] at e1 e2
  refine⟨P9 (show ltL n l from e2) (avG h2),fun op ho w=>?_⟩
  simp [execOp,ho,Instr.extract,e1,H6,aZ,h2]
 | call c=>
  obtain⟨callee,args,ts⟩:=c
  simp only [cOp] at h
  cases callee with
  | invoke _ _=>cases h
  | value f=>
   cases f with
   | func f=>
    obtain⟨fn,_,h⟩:=bind_eq h
    split at h
    ·obtain⟨os,_,h⟩:=bind_eq h;cases h
    ·cases h
   | _=>
    obtain⟨x',_,h⟩:=bind_eq h
    obtain⟨os,_,h⟩:=bind_eq h;cases h
  | builtin b=>
   obtain⟨args⟩:=args
   obtain⟨ts⟩:=ts
   simp only [qE] at h
   split at h
   ·
    rename_i t x
    obtain⟨u,hu,h⟩:=bind_eq h
    have hh:∃x',(bK P slots done x=some x'∧u=.string∧po=.lenS x')∨(bK P slots done x=some x'∧(∃e,u=.slice e)∧po=.len x')∨∃k e,u=.array k e∧po=.mov (.con (.int .i64 k)):=by
     split at h
     ·obtain⟨x',hx,h⟩:=bind_eq h;exact⟨x',.inl ⟨hx,rfl,(bN h).symm⟩⟩
     ·obtain⟨x',hx,h⟩:=bind_eq h;exact⟨x',.inr (.inl ⟨hx,⟨_,rfl⟩,(bN h).symm⟩)⟩
     ·exact⟨default,.inr (.inr ⟨_,_,rfl,(bN h).symm⟩)⟩
     ·obtain⟨x',hx,h⟩:=bind_eq h;cases h
     ·cases h
    obtain⟨x',⟨hx,rfl,rfl⟩ | ⟨hx,⟨e,rfl⟩,rfl⟩ | ⟨k,e,rfl,rfl⟩⟩:=hh
    ·obtain⟨e1,_⟩:=I5 s hx
     obtain⟨str,h1,h2⟩:=mX hv
     have h1:trO x' ls env=.str str:=h1
     cases h2
     exact⟨by simp [j5.lt],fun o ho w=>by simp [execOp,ho,resolve,invoke,builtin,Builtin.len_,run_underlying hu,e1,h1,H6,goInt,nU]⟩
    ·obtain⟨e1,_⟩:=I5 s hx
     rcases uq hv with⟨h1,h2⟩ | ⟨id,off,len,cap,h1,h2⟩ | ⟨id,off,len,cap,h1,h2⟩
     ·have h1:trO x' ls env=.nilSlice:=h1
      cases h2
      exact⟨by simp [j5.lt],fun o ho w=>by simp [execOp,ho,resolve,invoke,builtin,Builtin.len_,run_underlying hu,e1,h1,H6,goInt]⟩
     ·have h1:trO x' ls env=.slice id off len cap:=h1
      cases h2
      exact⟨by simp [j5.lt],fun o ho w=>by simp [execOp,ho,resolve,invoke,builtin,Builtin.len_,run_underlying hu,e1,h1,H6,goInt]⟩
     ·have h1:trO x' ls env=.sliceU id off len cap:=h1
      cases h2
      exact⟨by simp [j5.lt],fun o ho w=>by simp [execOp,ho,resolve,invoke,builtin,Builtin.len_,run_underlying hu,e1,h1,H6,goInt]⟩
    ·cases hv
     refine⟨by simp [trO,Q6,j5.lt],fun o ho w=>?_⟩
     simp [execOp,ho,resolve,invoke,builtin,Builtin.len_,run_underlying hu,trO,Q6,H6,goInt]
   ·
    rename_i t x
    obtain⟨u,hu,h⟩:=bind_eq h
    split at h
    ·obtain⟨x',hx,h⟩:=bind_eq h
     obtain rfl:=bN h
     obtain⟨e1,_⟩:=I5 s hx
     rcases uq hv with⟨h1,h2⟩ | ⟨id,off,len,cap,h1,h2⟩ | ⟨_,_,_,_,_,h2⟩
     ·have h1:trO x' ls env=.nilSlice:=h1
      cases h2
      exact⟨by simp [j5.lt],fun o ho w=>by simp [execOp,ho,resolve,invoke,builtin,Builtin.cap_,run_underlying hu,e1,h1,H6,goInt]⟩
     ·have h1:trO x' ls env=.slice id off len cap:=h1
      cases h2
      exact⟨by simp [j5.lt],fun o ho w=>by simp [execOp,ho,resolve,invoke,builtin,Builtin.cap_,run_underlying hu,e1,h1,H6,goInt]⟩
     ·cases h2
    ·cases h
   ·obtain⟨u,hu,h⟩:=bind_eq h
    split at h
    ·obtain⟨_,_,h⟩:=bind_eq h
     obtain⟨_,_,h⟩:=bind_eq h
     obtain⟨_,_,h⟩:=bind_eq h
     obtain⟨_,_,h⟩:=bind_eq h
     obtain⟨_,_,h⟩:=bind_eq h
     obtain⟨_,_,h⟩:=bind_eq h;cases h
    ·cases h
   ·obtain⟨u,hu,h⟩:=bind_eq h
    split at h
    ·obtain⟨_,_,h⟩:=bind_eq h
     obtain⟨_,_,h⟩:=bind_eq h
     obtain⟨_,_,h⟩:=bind_eq h;cases h
    ·cases h
   ·obtain⟨u,hu,h⟩:=bind_eq h
    split at h
    ·obtain⟨_,_,h⟩:=bind_eq h
     obtain⟨_,_,h⟩:=bind_eq h;cases h
    ·cases h
   ·
    rename_i x xs
    obtain⟨x',hx,h⟩:=bind_eq h
    obtain⟨xs',hxs,h⟩:=bind_eq h
    obtain rfl:=bN h
    obtain⟨e1,e2⟩:=I5 s hx
    obtain⟨e3,e4⟩:=je s hxs
    obtain⟨g1,g2⟩:=Gh (P:=P) (ι:=ι) true _ _ v e4 e2 hv
    refine⟨g1,fun o ho w=>?_⟩
    have:=g2 w
    simp only [if_true] at this
    simp [execOp,ho,resolve,invoke,builtin,Builtin.max_,e1,e3,this]
   ·rename_i x xs
    obtain⟨x',hx,h⟩:=bind_eq h
    obtain⟨xs',hxs,h⟩:=bind_eq h
    obtain rfl:=bN h
    obtain⟨e1,e2⟩:=I5 s hx
    obtain⟨e3,e4⟩:=je s hxs
    obtain⟨g1,g2⟩:=Gh (P:=P) (ι:=ι) false _ _ v e4 e2 hv
    refine⟨g1,fun o ho w=>?_⟩
    have:=g2 w
    simp only [awg,if_false] at this
    simp [execOp,ho,resolve,invoke,builtin,Builtin.min_,e1,e3,this]
   ·cases h
   ·cases h
 | alloc t=>simp only [cOp] at h;obtain⟨_,_,h⟩:=bind_eq h;cases h
 | box t x=>simp only [cOp] at h;obtain⟨_,_,h⟩:=bind_eq h;cases h
 | buildSlice t len parts=>
  simp only [cOp] at h
  obtain⟨_,_,h⟩:=bind_eq h
  split at h
  ·obtain⟨_,_,h⟩:=bind_eq h
   obtain⟨_,_,h⟩:=bind_eq h
   split at h
   ·obtain⟨_,_,h⟩:=bind_eq h;cases h
   ·cases h
  ·cases h
 | insert t m k x=>
  simp only [cOp] at h
  obtain⟨_,_,h⟩:=bind_eq h
  split at h
  ·obtain⟨_,_,h⟩:=bind_eq h
   obtain⟨_,_,h⟩:=bind_eq h
   obtain⟨_,_,h⟩:=bind_eq h
   obtain⟨_,_,h⟩:=bind_eq h;cases h
  ·cases h
 | mapUpdate t m k x=>
  simp only [cOp] at h
  obtain⟨_,_,h⟩:=bind_eq h
  split at h
  ·obtain⟨_,_,h⟩:=bind_eq h
   obtain⟨_,_,h⟩:=bind_eq h
   obtain⟨_,_,h⟩:=bind_eq h
   obtain⟨_,_,h⟩:=bind_eq h;cases h
  ·cases h
 | load t x=>simp only [cOp] at h;obtain⟨_,_,h⟩:=bind_eq h;obtain⟨_,_,h⟩:=bind_eq h;cases h
 | store t x y=>simp only [cOp] at h;obtain⟨_,_,h⟩:=bind_eq h;obtain⟨_,_,h⟩:=bind_eq h;obtain⟨_,_,h⟩:=bind_eq h;cases h
 | makeMap t r=>
  simp only [cOp] at h
  repeat' (first | (cases h;done) | split at h)
 | makeSlice t l c=>
  simp only [cOp] at h
  obtain⟨_,_,h⟩:=bind_eq h
  split at h
  ·obtain⟨_,_,h⟩:=bind_eq h
   obtain⟨_,_,h⟩:=bind_eq h
   obtain⟨_,_,h⟩:=bind_eq h
   obtain⟨_,_,h⟩:=bind_eq h
   obtain⟨_,_,h⟩:=bind_eq h;cases h
  ·cases h
 | lookup t x k ok=>
  simp only [cOp] at h
  obtain⟨_,_,h⟩:=bind_eq h
  split at h
  ·obtain⟨_,_,h⟩:=bind_eq h
   obtain⟨_,_,h⟩:=bind_eq h
   obtain⟨_,_,h⟩:=bind_eq h
   obtain⟨_,_,h⟩:=bind_eq h;cases h
  ·cases h
 | range t x=>
  simp only [cOp] at h
  obtain⟨_,_,h⟩:=bind_eq h
  split at h
  ·obtain⟨_,_,h⟩:=bind_eq h;cases h
  ·cases h
 | next it is=>
  cases is
  ·simp only [cOp] at h;obtain⟨_,_,h⟩:=bind_eq h;cases h
  ·simp only [cOp] at h;cases h
 | entry it=>simp only [cOp] at h;obtain⟨_,_,h⟩:=bind_eq h;cases h
 | panic x=>simp only [cOp] at h;obtain⟨_,_,h⟩:=bind_eq h;cases h
 | defer c=>
  simp only [cOp] at h
  split at h
  ·obtain⟨_,_,h⟩:=bind_eq h
   obtain⟨_,_,h⟩:=bind_eq h;cases h
  ·cases h
 | _=>simp only [cOp] at h;cases h
end
end
end Go.AM
